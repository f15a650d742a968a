import PyProof.Rows.All
import Wide.All
import OpenK.AllK
import Wide.FinOn
import HandS.ForMost
import HandS.ForExc
import HandS.Set
import HandS.SetFor
import HandS.Strs
import KE.SortData
import KE.DataMinMax
import HandS.Walk
import HandS.IsInst
import HandS.TupAny
import HandS.Style
import HandS.Flow
import HandS.Deep
import HandS.TupMul
import HandS.Conv
import PyProof.TupleOfStr
import KE.KDictCopyH
import HandS.Zip
import HandS.NoneIn
import KE.GoesNew
import KE.KRevSl
import HandS.Defaults
import HandS.WordsExc
import HandS.Words
import HandS.Head0
import HandS.Head1
import HandS.Head2
import HandS.HeadEnd
import HandS.HeadHook1
import HandS.HeadHook2
import HandS.TryMany
import KE.GoesRaise
import HandS.Small
import KE.GoesMore
import KE.GoesEnum
import KE.KItemsList
import KE.KDictPairs
import KE.KDictDisplayH
import KE.KDictZip
import KE.DataAny
import HandS.Text
import HandS.TupSets
import KE.KeyNested
import HandS.ReplaceLit
import PyProof.StrLawsTight
import PyProof.StrLawsChain
import PyProof.StrLawsIn
import PyProof.Rows.StrSplitJoin
import PyProof.Rows.StrSplitAre
import HandS.ReplaceList
import HandS.Replace
import PySem.Challenge.RW_trappedkeys_k29_whole_there_and_back
set_option Elab.async false
set_option linter.all false
set_option maxRecDepth 100000
set_option maxHeartbeats 4000000
namespace TK
open PySem PySem.Spec PyProof.Rows L2
def txtOf (e : Int × Value) : Str := match e.2 with
  | .str x _ => x
  | _ => Str.empty
def TxtE (wo : World) (e : Int × Value) : Prop := ∃ x tk, e.2 = Value.str x tk ∧ e.1 = hashStr wo x
/-- a set of texts at a: L tells its members; it can be walked -/
def TSet (wo : World) (h : Heap) (a : Addr) (L : List Str) : Prop :=
  ∃ (ob : Obj) (en : Array (Int × Value)) (q : Nat) (tb : SetTable), h.get? a = some ob ∧ ob.ExactSet ∧ ob.data = .set en q tb ∧ (∀ e ∈ en.toList, TxtE wo e) ∧ (en.toList.map txtOf).Nodup ∧
    (∀ x, x ∈ L ↔ x ∈ en.toList.map txtOf) ∧ en.size < scanBound ∧ tb.fits en.size = true ∧ Ris tb.place.toList ∧ (wo.params.followText "set-order" = true ∨ tb.led = true)
section
variable {P : Program} {wo : World} {h h' : Heap} {a : Addr} {L : List Str}
theorem TSet.at (T : TSet wo h a L) (k : ∀ ob, h.get? a = some ob → h'.get? a = some ob) : TSet wo h' a L := by
  obtain ⟨ob, en, q, tb, ho, r⟩ := T
  exact ⟨ob, en, q, tb, k ob ho, r⟩
theorem txt_elems {l : List (Int × Value)} (g : ∀ e ∈ l, TxtE wo e) : ElemsOf (strKind P wo) l := fun e he => by
  obtain ⟨x, tk, e1, e2⟩ := g e he
  exact ⟨⟨x, by rw [e1]; exact strKind_is P wo x tk, e2⟩, by rw [e1] <;> rfl⟩
theorem txt_is {e : Int × Value} (g : TxtE wo e) (x : Str) : (strKind P wo).is x e.2 = true ↔ txtOf e = x := by
  obtain ⟨y, tk, e1, _⟩ := g
  unfold txtOf
  rw [e1]
  show Value.isStrOf x (.str y tk) = true ↔ y = x
  simp [Value.isStrOf]
theorem txt_mem {l : List (Int × Value)} (g : ∀ e ∈ l, TxtE wo e) (x : Str) : x ∈ l.map txtOf ↔ ∃ e ∈ l, (strKind P wo).is x e.2 = true := by
  rw [List.mem_map]
  exact ⟨fun ⟨e, he, z⟩ => ⟨e, he, (txt_is (g e he) x).2 z⟩, fun ⟨e, he, z⟩ => ⟨e, he, (txt_is (g e he) x).1 z⟩⟩
end
section
variable {P : Program} {wo : World} {A : Around} {E : Value → Shared → Prop} {s : Shared} {a : Addr} {L : List Str}
/-- the table is stored, and laid anew where it is too full -/
theorem tset_tail {gv : Bool → Sem Unit} (hg : ∀ (b : Bool) (z : Shared) (R : Unit → Shared → Prop), R () z → wpAny (model P wo) A (gv b) R E z)
    {ob : Obj} {en : Array (Int × Value)} {q : Nat} {tb : SetTable} (ho : s.heap.get? a = some ob) (hx : ob.ExactSet) (hd : ob.data = .set en q tb)
    {en1 : Array (Int × Value)} {tb2 : SetTable} {L' : List Str} (g1 : ∀ e ∈ en1.toList, TxtE wo e) (nd : (en1.toList.map txtOf).Nodup) (mm : ∀ x, x ∈ L' ↔ x ∈ en1.toList.map txtOf)
    (hb : en1.size < scanBound) (hf : tb2.fits en1.size = true) (hr : Ris tb2.place.toList) (hl : wo.params.followText "set-order" = true ∨ tb2.led = true) {wd : Bool} {R : Option Bool → Shared → Prop}
    (fin : ∀ h', Heap.SameBut a s.heap h' → TSet wo h' a L' → R (some true) { s with heap := h' }) :
    wpAny (model P wo) A (do
        storeSet a en1 tb2
        if (!wd && tb2.tooFull) = true then do
            gv (relayAll tb2 en1 (SetTable.grown en1.size)).2.2
            storeSet a (relayAll tb2 en1 (SetTable.grown en1.size)).1 (relayAll tb2 en1 (SetTable.grown en1.size)).2.1
            pure (some true)
          else pure (some true)) R E s := by
  refine wpAny_bind (wpAny_storeSet_of ho hd ?_ (fits_of_scanBound hb))
  have st1 := store_at (es' := en1) (t' := tb2) ho hd
  have sm1 := Heap.SameBut.update s.heap a (Obj.putSet en1 tb2)
  split
  · have a1 := relayAll_perm tb2 en1 (SetTable.grown en1.size)
    have a2 := relayAll_fits tb2 en1 (SetTable.grown en1.size)
    have a3 := relayAll_ris tb2 en1 (SetTable.grown en1.size)
    have a4 := relayAll_led tb2 en1 (SetTable.grown en1.size)
    generalize relayAll tb2 en1 (SetTable.grown en1.size) = Y at a1 a2 a3 a4 ⊢
    obtain ⟨en2, tb3, gave⟩ := Y
    dsimp only at a1 a2 a3 a4 ⊢
    have sz : en2.size = en1.size := by rw [← Array.length_toList, a1.length_eq, Array.length_toList]
    refine wpAny_bind (hg _ _ _ ?_)
    refine wpAny_bind (wpAny_storeSet_of st1 rfl ?_ (fits_of_scanBound (by rw [sz]; exact hb)))
    have st2 := store_at (es' := en2) (t' := tb3) st1 rfl
    refine wpAny_pure (fin _ (sm1.trans (Heap.SameBut.update _ a _)) ?_)
    exact ⟨_, en2, _, tb3, st2, hx, rfl, fun e he => g1 e (a1.mem_iff.mp he), (a1.map txtOf).nodup_iff.mpr nd, fun x => (mm x).trans (a1.map txtOf).mem_iff.symm, by rw [sz]; exact hb, a2, a3,
      hl.imp id fun z => by rw [a4]; exact z⟩
  · exact wpAny_pure (fin _ sm1 ⟨_, en1, _, tb2, st1, hx, rfl, g1, nd, mm, hb, hf, hr, hl⟩)
/-- one text more -/
theorem tset_add {x : Str} {tk : Tok} {Q : Bool → Shared → Prop} (T : TSet wo s.heap a L) (room : ∀ (ob : Obj) (en : Array (Int × Value)) (q : Nat) (tb : SetTable), s.heap.get? a = some ob → ob.data = .set en q tb → en.size + 1 < scanBound)
    (fin : ∀ b h', Heap.SameBut a s.heap h' → TSet wo h' a (L ++ [x]) → Q b { s with heap := h' }) :
    wpAny (model P wo) A (setAddHashed a (.str x tk) ((strKind P wo).hash x)) Q E s := by
  obtain ⟨ob, en, q, tb, ho, hx, hd, g, nd, hm, hb, hf, hr, hl⟩ := T
  have room1 := room ob en q tb ho hd
  have isk : (strKind P wo).is x (.str x tk) = true := strKind_is P wo x tk
  have isc : (Value.str x tk).scannable = true := rfl
  have els : ElemsOf (strKind P wo) en.toList := txt_elems g
  unfold setAddHashed setAddHashedIn
  refine wpAny_holding (wpAny_bind (wpAny_setState_of ho hd hf ?_))
  dsimp only
  rw [byScan_of isc hb els]
  simp only [↓reduceIte]
  unfold setAddByScan
  refine wpAny_bind ?_
  refine wpAny_bind (wpAny_rule ?_)
  refine wpAny_bind (wpAny_setScan_of isk ho hd hf els ?_)
  cases fi : List.findIdx? (fun e => (strKind P wo).is x e.2) en.toList with
  | some j =>
    dsimp only
    obtain ⟨hj, pj, _⟩ := List.findIdx?_eq_some_iff_getElem.mp fi
    have inn : x ∈ en.toList.map txtOf := (txt_mem (P := P) (wo := wo) g x).2 ⟨en.toList[j], List.getElem_mem hj, pj⟩
    refine wpAny_pure (wpAny_pure ?_)
    refine fin _ s.heap (Heap.SameBut.refl a s.heap) ⟨ob, en, q, tb, ho, hx, hd, g, nd, fun y => ?_, hb, hf, hr, hl⟩
    rw [List.mem_append, List.mem_singleton, hm y]
    exact ⟨fun z => z.elim id fun e => e ▸ inn, .inl⟩
  | none =>
    dsimp only
    have out : x ∉ en.toList.map txtOf := fun z => by
      obtain ⟨e, he, y⟩ := (txt_mem (P := P) (wo := wo) g x).1 z
      have c := List.findIdx?_eq_none_iff.mp fi e he
      rw [y] at c
      cases c
    have gw : ∀ (b : Bool) {z : Shared} {R : Unit → Shared → Prop}, R () z → wpAny (model P wo) A (match b with | true => rule "set.scan.the-table-gave-way" | false => pure ()) R E z :=
      fun b z R y => by cases b <;> first | exact wpAny_pure y | exact wpAny_rule y
    have a1 := layNew_perm tb en ((strKind P wo).hash x) (.str x tk)
    have a2 := layNew_fits tb en ((strKind P wo).hash x) (.str x tk)
    have a3 := layNew_ris tb en ((strKind P wo).hash x) (.str x tk) hr
    have a4 := layNew_led tb en ((strKind P wo).hash x) (.str x tk)
    generalize layNew tb en ((strKind P wo).hash x) (.str x tk) = Y at a1 a2 a3 a4 ⊢
    obtain ⟨en1, tb1, wd, gave⟩ := Y
    dsimp only at a1 a2 a3 a4 ⊢
    rw [Array.toList_push] at a1
    have pc : en1.toList.Perm (((strKind P wo).hash x, Value.str x tk) :: en.toList) := a1.trans (List.perm_append_singleton _ _)
    have pk : (en1.toList.map txtOf).Perm (x :: en.toList.map txtOf) := pc.map txtOf
    have g1 : ∀ e ∈ en1.toList, TxtE wo e := fun e he => by
      rcases List.mem_cons.mp (pc.mem_iff.mp he) with z | z
      · rw [z]; exact ⟨x, tk, rfl, rfl⟩
      · exact g e z
    have nd1 : (en1.toList.map txtOf).Nodup := pk.nodup_iff.mpr (List.nodup_cons.mpr ⟨out, nd⟩)
    have m1 : ∀ y, y ∈ L ++ [x] ↔ y ∈ en1.toList.map txtOf := fun y => by
      rw [List.mem_append, List.mem_singleton, hm y, pk.mem_iff, List.mem_cons]
      exact Or.comm
    have hb1 : en1.size < scanBound := by
      rw [← Array.length_toList, pc.length_eq, List.length_cons, Array.length_toList]
      exact room1
    have ld : wo.params.followText "set-order" = true ∨ tb1.led = true := hl.imp id fun z => by rw [a4]; exact z
    refine wpAny_bind (gw _ ?_)
    split
    · refine wpAny_bind ?_
      rw [hashByValue_scannable 8 isc]
      refine wpAny_pure ?_
      refine tset_tail ?_ ho hx hd g1 nd1 m1 hb1 ?_ ?_ ?_ ?_
      · intro b z R y; cases b <;> first | exact wpAny_pure y | exact wpAny_rule y
      · first | (split <;> first | exact a2 | exact SetTable.fits_plain_off a2) | exact a2
      · first | (split <;> exact a3) | exact a3
      · first | (split <;> exact ld) | exact ld
      · intro h' sb r; dsimp only; exact wpAny_pure (fin _ h' sb r)
    · refine wpAny_bind (wpAny_pure ?_)
      simp only [↓reduceIte]
      refine tset_tail ?_ ho hx hd g1 nd1 m1 hb1 a2 a3 ld ?_
      · intro b z R y; cases b <;> first | exact wpAny_pure y | exact wpAny_rule y
      · intro h' sb r; dsimp only; exact wpAny_pure (fin _ h' sb r)
theorem nodup_sub_length : ∀ {l m : List Str}, l.Nodup → (∀ x ∈ l, x ∈ m) → l.length ≤ m.length
  | [], _, _, _ => Nat.zero_le _
  | x :: l, m, nd, hs => by
    obtain ⟨n1, n2⟩ := List.nodup_cons.mp nd
    have hx : x ∈ m := hs x List.mem_cons_self
    have := nodup_sub_length (l := l) (m := m.erase x) n2 fun y hy => by
      have hy' := hs y (List.mem_cons_of_mem _ hy)
      exact (List.mem_erase_of_ne (fun e : y = x => n1 (e ▸ hy))).mpr hy'
    have h2 := List.length_erase_of_mem hx
    have h3 : 0 < m.length := List.length_pos_of_mem hx
    rw [List.length_cons]
    omega
theorem TSet.size_le {h : Heap} (T : TSet wo h a L) {ob : Obj} {en : Array (Int × Value)} {q : Nat} {tb : SetTable} (ho : h.get? a = some ob) (hd : ob.data = .set en q tb) : en.size ≤ L.length := by
  obtain ⟨ob', en', q', tb', ho', hx, hd', g, nd, hm, _⟩ := T
  rw [ho] at ho'
  cases ho'
  rw [hd] at hd'
  cases hd'
  have := nodup_sub_length nd fun x hx => (hm x).mpr hx
  rw [List.length_map, Array.length_toList] at this
  exact this
/-- the loop of set.update over a walk whose items are the texts xs -/
theorem tset_loop {I : Addr} {fp wr : List Addr} {G : Array GenState → Array GenState → Prop} {n : Nat} {Pv : Nat → Value → Prop} {Sv : Nat → Shared → Prop} {R : Result → Shared → Prop}
    (W : WalksS P wo A.in1 I fp wr G n Pv Sv) (hS : a ∉ fp) (xs : List Str) (hn : xs.length = n) (hv : ∀ i v, Pv i v → ∃ x tk, xs[i]? = some x ∧ v = .str x tk) (hb : n + 1 < scanBound) :
    ∀ (m i : Nat) (s : Shared), n - i = m → i ≤ n → Sv i s → TSet wo s.heap a (xs.take i) →
      (∀ s', Moved (a :: wr) G s s' → TSet wo s'.heap a xs → R (.ok (.ret .none)) s') →
      codeAny (model P wo) A (.builtin "set.update.loop" ⟨[.ref a, .ref I], []⟩) R s := by
  have nw : a ∉ wr := fun z => hS (W.sub _ z)
  have up : ∀ b ∈ wr, b ∈ a :: wr := fun b hb => List.mem_cons_of_mem _ hb
  intro m
  induction m with
  | zero =>
    intro i s e1 e2 sv T fin
    have e3 : i = n := by omega
    subst e3
    refine codeAny_builtin F.entry_set_update_loop ?_
    rw [Around.under_plainId F.plain_set_update_loop _]
    show wpAny _ A.in1 (pyNext (.ref I) >>= _) _ _ s
    refine wpAny_bind (W.done s _ _ sv fun s' mv => ?_)
    show wpAny _ A.in1 (ret Value.none) _ _ s'
    rw [← hn, List.take_length] at T
    exact wpAny_pure (fin s' (mv.mono up) (T.at fun ob z => mv.heap a ob nw z))
  | succ m ih =>
    intro i s e1 e2 sv T fin
    have lt : i < n := by omega
    refine codeAny_builtin F.entry_set_update_loop ?_
    rw [Around.under_plainId F.plain_set_update_loop _]
    show wpAny _ A.in1 (pyNext (.ref I) >>= _) _ _ s
    refine wpAny_bind (W.item i s _ _ lt sv fun v s' hp sv' mv => ?_)
    obtain ⟨x, tk, hx, rfl⟩ := hv i v hp
    have T' : TSet wo s'.heap a (xs.take i) := T.at fun ob z => mv.heap a ob nw z
    show wpAny _ A.in1 (holding [Value.str x tk] (setAdd a (.str x tk)) >>= _) _ _ s'
    refine wpAny_bind (wpAny_holding ?_)
    unfold setAdd
    refine wpAny_holding ?_
    refine wpAny_bind ((strKind P wo).pyHash (k := x) (strKind_is _ _ _ _) ?_)
    refine tset_add (s := { s' with toks := s'.toks + 1 }) T' (fun ob en q tb z1 z2 => ?_) fun b h' sb T2 => ?_
    · have := T'.size_le z1 z2
      rw [List.length_take] at this
      omega
    · have T3 : TSet wo h' a (xs.take (i + 1)) := by
        rw [List.take_add_one, hx]
        exact T2
      refine wpAny_pure ⟨plainId_quiet F.plain_set_update_loop _, ih (i + 1) _ (by omega) lt (W.frame _ s' _ _ sv' (Nat.le_succ _) fun b hb ob z => ?_) T3 fun s2 mv2 T4 => ?_⟩
      · rw [sb.2 b (fun z' : b = a => hS (by rw [← z']; exact hb))]; exact z
      · refine fin s2 (Moved.trans W.gtrans ((mv.mono up).then_heap (Nat.le_succ _) fun b ob hb z => ?_) mv2) T4
        rw [sb.2 b (fun z' : b = a => hb (by rw [z']; exact List.mem_cons_self))]; exact z
end
end TK
namespace TK
open PySem PySem.Spec PyProof.Rows L2
abbrev set0 (wo : World) : Obj := { cls := .type "set", dict := none, data := .set #[] 0 (.fresh 0 0 (!wo.params.followText "set-order")) }
theorem tset_fresh {wo : World} {h : Heap} {a : Addr} (e : h.get? a = some (set0 wo)) : TSet wo h a [] := by
  refine ⟨_, #[], 0, _, e, ⟨rfl, rfl, rfl⟩, rfl, fun x hx => by simp at hx, by simp, fun k => by simp, by decide, by rfl, List.Pairwise.nil, ?_⟩
  show _ ∨ (!wo.params.followText "set-order") = true
  cases wo.params.followText "set-order"
  · exact .inr rfl
  · exact .inl rfl
theorem apart2 {n m l : Addr} (e : m = n + 1) (h : l < n) : n ∉ [m, l] := fun hm => by
  rcases List.mem_cons.mp hm with z | hm
  · rw [e] at z
    exact absurd z (Nat.ne_of_lt (Nat.lt_succ_self n))
  · exact absurd (List.mem_singleton.mp hm) (Nat.ne_of_gt h)
section
variable {prog : Program} {w : World} {A : Around} {E : Value → Shared → Prop} {s : Shared}
theorem set_of_list {l : Addr} {its : Array Value} {xs : List Str} {Q : Value → Shared → Prop} (calm : A.handled = none) (isl : s.heap.IsList l its) (txt : ∀ (i : Nat) v, its[i]? = some v → ∃ x tk, xs[i]? = some x ∧ v = .str x tk) (len : xs.length = its.size)
    (few : its.size + 1 < scanBound) (fin : ∀ (g : Heap) (tk : Nat), TSet w g s.heap.objs.size xs → (∀ b ob, b < s.heap.objs.size → s.heap.get? b = some ob → g.get? b = some ob) → Q (.ref s.heap.objs.size) { s with heap := g, toks := tk }) :
    wpAny (model prog w) A (call (.type "set") [.ref l]) Q E s := by
  obtain ⟨_, _, k1⟩ := PySem.F.called_set.mro
  have k2 := PySem.F.called_set.made
  have k3 := PySem.F.called_set.sub
  refine wpAny_call (codeAny_of_tree ?_)
  show wpAny _ _ (callAny (.type "set") _) _ _ _
  refine wpAny_pure ⟨Code.quiet_builtin _ (by decide +kernel), codeAny_builtin PySem.F.entry_type_call ?_⟩
  rw [Around.under_plain (weight_type_call_type "set" [.ref l] []) rfl]
  have k4 := PySem.F.called_set.notType
  have k5 := PySem.F.called_set.canCreate
  have k6 := PySem.F.typeCall_set_1 (.ref l)
  repeat (any_goals (first | assumption | wp_step))
  refine codeAny_mono (code_set_led1 (.ref l) (E := E) (Q₁ := fun ob z => ob = .ref s.heap.objs.size ∧ z = { s with heap := s.heap.push (set0 w) }) ⟨rfl, rfl⟩) fun r z hr => ?_
  cases r with
  | error e => exact hr
  | ok fl =>
    cases fl with
    | ret ob =>
      obtain ⟨rfl, rfl⟩ := hr
      have at0 : (s.heap.push (set0 w)).get? s.heap.objs.size = some (set0 w) := Heap.get?_push_size _ rfl
      have ty0 : Shared.TypeIs { s with heap := s.heap.push (set0 w) } (.ref s.heap.objs.size) "set" := ⟨_, at0, rfl⟩
      have k7 := PySem.F.called_set.init.lookup
      have k8 := PySem.F.called_set.init.bind (.ref s.heap.objs.size)
      repeat (any_goals (first | assumption | wp_step))
      refine codeAny_mono (codeAny_call_builtin (R := wants (fun r z => r = .none ∧ ∃ g tk, z = { s with heap := g, toks := tk } ∧ TSet w g s.heap.objs.size xs ∧
          (∀ b ob, b < s.heap.objs.size → s.heap.get? b = some ob → g.get? b = some ob)) E) PySem.F.called_set.init.plain PySem.F.entry_set_init (check_set_init_1 ty0 ?_)) fun r2 z2 hr2 => ?_
      · obtain ⟨⟨c1, c2, c3, c4⟩, ol, e1, m, e2⟩ := isl
        simp only at e1 e2
        subst e1 e2
        have ol1 : (s.heap.push (set0 w)).get? l = some { cls := .type "list", dict := c2, data := .seq its m, slots := c4 } := Heap.get?_push_of_some _ ol
        have k9 := PySem.F.sub_list_set
        have k10 := PySem.F.sub_list_frozenset
        have k11 : (Value.type "list" == Value.type "dict") = false := by decide
        have il1 : (s.heap.push (set0 w)).IsList l its := ⟨_, ol1, rfl, m, rfl⟩
        unfold Builtin.«set.__init__» noKeywords Builtin.Frozenset.updateFrom
        generalize hPI : pyIter = PI
        wp_walk
        subst hPI
        refine wpAny_pyIter_list il1 ?_
        refine wpAny_bind (wpAny_runValue ?_)
        have lts : l < s.heap.objs.size := Heap.lt_size ol
        have calm3 : A.in1.in1.in1.handled = none := by simp [calm]
        have sz1 : (s.heap.push (set0 w)).objs.size = s.heap.objs.size + 1 := Heap.size_push ..
        refine tset_loop ((Walks.list calm3 _ l (by rw [sz1]; exact Nat.ne_of_lt (Nat.lt_succ_of_lt lts)) its).toS) (a := s.heap.objs.size) (apart2 sz1 lts) xs len txt few (its.size - 0) 0 _ (by omega) (Nat.zero_le _)
          ⟨⟨_, Heap.get?_push_size _ rfl, rfl, rfl⟩, (il1.push _)⟩ (tset_fresh (Heap.get?_push_of_some _ at0)) ?_
        intro z mv T
        obtain ⟨g, x1, x2, tk, x3⟩ := z
        obtain rfl : x1 = s.gens := mv.gens
        obtain rfl : x2 = s.drawn := mv.drawn
        obtain rfl : x3 = s.os := mv.os
        show wpAny _ _ _ _ _ _
        refine wpAny_pure ?_
        show wpAny _ _ (ret Value.none) _ _ _
        refine wpAny_pure ⟨rfl, g, tk, rfl, T, fun b ob hb e => ?_⟩
        refine mv.heap b ob ?_ (Heap.get?_push_of_some _ (Heap.get?_push_of_some _ e))
        rw [sz1]
        intro hm
        rcases List.mem_cons.mp hm with e1 | hm
        · exact Nat.ne_of_lt hb e1
        · exact Nat.ne_of_lt (Nat.lt_succ_of_lt hb) (List.mem_singleton.mp hm)
      · cases r2 with
        | error e => exact hr2
        | ok fl2 =>
          cases fl2 with
          | ret r =>
            obtain ⟨rfl, g, tk, rfl, T, kp⟩ := hr2
            repeat (any_goals (first | assumption | wp_step))
            exact fin _ _ T kp
          | _ => exact hr2.elim
    | _ => exact hr.elim
theorem set_of_tuple {l : Addr} {its : Array Value} {xs : List Str} {Q : Value → Shared → Prop} (calm : A.handled = none) (isl : s.heap.IsTuple l its) (txt : ∀ (i : Nat) v, its[i]? = some v → ∃ x tk, xs[i]? = some x ∧ v = .str x tk) (len : xs.length = its.size)
    (few : its.size + 1 < scanBound) (fin : ∀ (g : Heap) (tk : Nat), TSet w g s.heap.objs.size xs → (∀ b ob, b < s.heap.objs.size → s.heap.get? b = some ob → g.get? b = some ob) → Q (.ref s.heap.objs.size) { s with heap := g, toks := tk }) :
    wpAny (model prog w) A (call (.type "set") [.ref l]) Q E s := by
  obtain ⟨_, _, k1⟩ := PySem.F.called_set.mro
  have k2 := PySem.F.called_set.made
  have k3 := PySem.F.called_set.sub
  refine wpAny_call (codeAny_of_tree ?_)
  show wpAny _ _ (callAny (.type "set") _) _ _ _
  refine wpAny_pure ⟨Code.quiet_builtin _ (by decide +kernel), codeAny_builtin PySem.F.entry_type_call ?_⟩
  rw [Around.under_plain (weight_type_call_type "set" [.ref l] []) rfl]
  have k4 := PySem.F.called_set.notType
  have k5 := PySem.F.called_set.canCreate
  have k6 := PySem.F.typeCall_set_1 (.ref l)
  repeat (any_goals (first | assumption | wp_step))
  refine codeAny_mono (code_set_led1 (.ref l) (E := E) (Q₁ := fun ob z => ob = .ref s.heap.objs.size ∧ z = { s with heap := s.heap.push (set0 w) }) ⟨rfl, rfl⟩) fun r z hr => ?_
  cases r with
  | error e => exact hr
  | ok fl =>
    cases fl with
    | ret ob =>
      obtain ⟨rfl, rfl⟩ := hr
      have at0 : (s.heap.push (set0 w)).get? s.heap.objs.size = some (set0 w) := Heap.get?_push_size _ rfl
      have ty0 : Shared.TypeIs { s with heap := s.heap.push (set0 w) } (.ref s.heap.objs.size) "set" := ⟨_, at0, rfl⟩
      have k7 := PySem.F.called_set.init.lookup
      have k8 := PySem.F.called_set.init.bind (.ref s.heap.objs.size)
      repeat (any_goals (first | assumption | wp_step))
      refine codeAny_mono (codeAny_call_builtin (R := wants (fun r z => r = .none ∧ ∃ g tk, z = { s with heap := g, toks := tk } ∧ TSet w g s.heap.objs.size xs ∧
          (∀ b ob, b < s.heap.objs.size → s.heap.get? b = some ob → g.get? b = some ob)) E) PySem.F.called_set.init.plain PySem.F.entry_set_init (check_set_init_1 ty0 ?_)) fun r2 z2 hr2 => ?_
      · obtain ⟨⟨c1, c2, c3, c4⟩, ol, e1, m, e2⟩ := isl
        simp only at e1 e2
        subst e1 e2
        have ol1 : (s.heap.push (set0 w)).get? l = some { cls := .type "tuple", dict := c2, data := .seq its m, slots := c4 } := Heap.get?_push_of_some _ ol
        have k9 := PySem.F.sub_tuple_set
        have k10 := PySem.F.sub_tuple_frozenset
        have k11 : (Value.type "tuple" == Value.type "dict") = false := by decide
        have il1 : (s.heap.push (set0 w)).IsTuple l its := ⟨_, ol1, rfl, m, rfl⟩
        unfold Builtin.«set.__init__» noKeywords Builtin.Frozenset.updateFrom
        generalize hPI : pyIter = PI
        wp_walk
        subst hPI
        refine wpAny_pyIter_tuple il1 ?_
        refine wpAny_bind (wpAny_runValue ?_)
        have lts : l < s.heap.objs.size := Heap.lt_size ol
        have calm3 : A.in1.in1.in1.handled = none := by simp [calm]
        have sz1 : (s.heap.push (set0 w)).objs.size = s.heap.objs.size + 1 := Heap.size_push ..
        refine tset_loop ((Walks.tuple calm3 _ l (by rw [sz1]; exact Nat.ne_of_lt (Nat.lt_succ_of_lt lts)) its).toS) (a := s.heap.objs.size) (apart2 sz1 lts) xs len txt few (its.size - 0) 0 _ (by omega) (Nat.zero_le _)
          ⟨⟨_, Heap.get?_push_size _ rfl, rfl, rfl⟩, (il1.push _)⟩ (tset_fresh (Heap.get?_push_of_some _ at0)) ?_
        intro z mv T
        obtain ⟨g, x1, x2, tk, x3⟩ := z
        obtain rfl : x1 = s.gens := mv.gens
        obtain rfl : x2 = s.drawn := mv.drawn
        obtain rfl : x3 = s.os := mv.os
        show wpAny _ _ _ _ _ _
        refine wpAny_pure ?_
        show wpAny _ _ (ret Value.none) _ _ _
        refine wpAny_pure ⟨rfl, g, tk, rfl, T, fun b ob hb e => ?_⟩
        refine mv.heap b ob ?_ (Heap.get?_push_of_some _ (Heap.get?_push_of_some _ e))
        rw [sz1]
        intro hm
        rcases List.mem_cons.mp hm with e1 | hm
        · exact Nat.ne_of_lt hb e1
        · exact Nat.ne_of_lt (Nat.lt_succ_of_lt hb) (List.mem_singleton.mp hm)
      · cases r2 with
        | error e => exact hr2
        | ok fl2 =>
          cases fl2 with
          | ret r =>
            obtain ⟨rfl, g, tk, rfl, T, kp⟩ := hr2
            repeat (any_goals (first | assumption | wp_step))
            exact fin _ _ T kp
          | _ => exact hr2.elim
    | _ => exact hr.elim
end
end TK
namespace TK
open PySem L2
abbrev D := PyData
abbrev DSt := List Int
/-- runs: draws threaded, a class name where an exception leaves, none where the interpreter does not tell -/
def M (α : Type) : Type := DSt → Option (Except Str α × DSt)
namespace M
def ret {α : Type} (a : α) : M α := fun st => some (.ok a, st)
def bnd {α β : Type} (x : M α) (f : α → M β) : M β := fun st =>
  match x st with
  | none => none
  | some (.error c, st1) => some (.error c, st1)
  | some (.ok a, st1) => f a st1
end M
instance : Monad M where
  pure := M.ret
  bind := M.bnd
def fail {α : Type} : M α := fun _ => none
def throwX {α : Type} (c : Str) : M α := fun st => some (.error c, st)
def liftO {α : Type} : Option α → M α
  | some a => pure a
  | none => fail
@[simp] theorem pure_bind' {α β : Type} (a : α) (f : α → M β) : ((pure a : M α) >>= f) = f a := rfl
@[simp] theorem fail_bind {α β : Type} (f : α → M β) : ((fail : M α) >>= f) = fail := rfl
@[simp] theorem throw_bind {α β : Type} (c : Str) (f : α → M β) : ((throwX c : M α) >>= f) = throwX c := rfl
@[simp] theorem liftO_some {α : Type} (a : α) : liftO (some a) = (pure a : M α) := rfl
@[simp] theorem liftO_none {α : Type} : (liftO none : M α) = fail := rfl
@[simp] theorem bind_assoc' {α β γ : Type} (x : M α) (f : α → M β) (g : β → M γ) : ((x >>= f) >>= g) = (x >>= fun a => f a >>= g) := by
  funext st
  show M.bnd (M.bnd x f) g st = M.bnd x (fun a => M.bnd (f a) g) st
  unfold M.bnd
  cases x st with
  | none => rfl
  | some p =>
    obtain ⟨r, s⟩ := p
    cases r <;> rfl
theorem bind_eq {α β : Type} {x : M α} {f : α → M β} {st st1 : DSt} {a : α} (h : x st = some (.ok a, st1)) : (x >>= f) st = f a st1 := by
  show M.bnd x f st = _
  unfold M.bnd
  rw [h]
theorem bind_err {α β : Type} {x : M α} {f : α → M β} {st st1 : DSt} {c : Str} (h : x st = some (.error c, st1)) : (x >>= f) st = some (.error c, st1) := by
  show M.bnd x f st = _
  unfold M.bnd
  rw [h]
/-- how a bind ends -/
theorem bind_inv {α β : Type} {x : M α} {f : α → M β} {st st2 : DSt} {r : Except Str β} (h : (x >>= f) st = some (r, st2)) :
    (∃ c, x st = some (.error c, st2) ∧ r = .error c) ∨ ∃ a st1, x st = some (.ok a, st1) ∧ f a st1 = some (r, st2) := by
  have h' : M.bnd x f st = some (r, st2) := h
  unfold M.bnd at h'
  cases e : x st with
  | none => rw [e] at h'; cases h'
  | some p =>
    obtain ⟨q, s1⟩ := p
    rw [e] at h'
    cases q with
    | error c => cases h'; exact .inl ⟨c, rfl, rfl⟩
    | ok a => exact .inr ⟨a, s1, rfl, h'⟩
/-- a def's meaning -/
abbrev FnSem := List D → M D
/-- the draws' list, as a value that is handed on -/
def tok : D := .dict [(.none, .none)]
/-- the script, as a value that is handed on -/
def scr (ns : List Int) : D := .dict [(.none, .list (ns.map .int))]
inductive Slot where
  | no | val (d : D) | own (d : D)
abbrev Env := List Slot
inductive Ty where
  | int | bool | str | tuple | list
  deriving DecidableEq
inductive O1 where
  | neg | inv | not | len | all | any | tupleOf | listOf | sorted | setLen | setSorted | max | min | sum | abs | str | int | rev | isN | isNN | isT | isF | isi (t : Ty) | dictOf | values | keys | keysT | range | allT | setT | repl (y z : Str)
  deriving DecidableEq
inductive O2 where
  | add | sub | mul | fdiv | mod | shl | band | eq | ne | lt | le | gt | ge | isin | notin | ix | index | count | split | join | endsw | min2 | get1 | dictZip
  deriving DecidableEq
inductive IK where
  | plain | range1 | range2 | zip2 | zip3 | enum | enumZip
  deriving DecidableEq
inductive Tg where
  | n (i : Nat) | t (ts : List Tg)
inductive E where
  | con (d : D)
  | var (i : Nat)
  | tup (es : List E)
  | lst (es : List E)
  | op1 (o : O1) (a : E)
  | op2 (o : O2) (a b : E)
  | op3 (o : Nat) (a b c : E)
  | chain (o o' : O2) (a b c : E)
  | and (a b : E)
  | or (a b : E)
  | ite (c a b : E)
  | slc (a : E) (lo hi : Option E)
  | call (j : Nat) (es : List E)
  | comp (own : List Nat) (tg : Tg) (k : IK) (src : List E) (conds : List E) (elt : E)
  | compX (own : List Nat) (tg : Tg) (k : IK) (src : List E) (conds : List E) (elt : E)
  | comp2 (own : List Nat) (tg : Tg) (k : IK) (src : List E) (own1 : List Nat) (tg1 : Tg) (k1 : IK) (src1 : List E) (conds : List E) (elt : E)
  | dict (t : Bool) (ks vs : List E)
  | get (a b : E) (c : D)
  | idx (a b : E)
inductive Fl where
  | nx | rt (d : D)
/-- a reference of which nothing but itself is known -/
def opq (i : Nat) : D := .dict [(.none, .int i)]
inductive S where
  | asg (own : Bool) (i : Nat) (e : E)
  | unp (tg : Tg) (e : E)
  | par (is : List (Nat × Bool)) (es : List E)
  | append (i : Nat) (e : E)
  | extend (i : Nat) (e : E)
  | store (i : Nat) (k e : E)
  | store2 (i : Nat) (k e k' e' : E)
  | appPop (i j : Nat) (e : E)
  | ite (c : E) (a b : List S)
  | iteF (c : E) (a b : List S)
  | for (tg : Tg) (k : IK) (src : List E) (b : List S)
  | while (c : E) (b : List S)
  | ret (e : E)
  | exp (e : E)
  | raise (c : Str)
  | tryR (b : E) (hs : List (Str × D))
  | tokApp (i : Nat) (e : E)
  | tokSet (i : Nat) (e : E)
  | cust (f : List FnSem → Env → M (Fl × Env))
def lim : Nat := sizeLine
def truth : D → Option Bool
  | .none => some false
  | .bool b => some b
  | .int i => some (i != 0)
  | .str s => if s.length ≤ lim then some (s.length != 0) else none
  | .list l => some (!l.isEmpty)
  | .tuple l => some (!l.isEmpty)
  | .dict _ => none
/-- no dict within, depth at most n -/
def dep : Nat → D → Bool
  | _, .none => true
  | _, .bool _ => true
  | _, .int _ => true
  | _, .str _ => true
  | 0, .list _ => false
  | 0, .tuple _ => false
  | n + 1, .list l => l.all (dep n)
  | n + 1, .tuple l => l.all (dep n)
  | _, .dict _ => false
def eqD (d e : D) : Option Bool := if dep 60 d && dep 60 e then some (PyData.eqv d e) else none
def strLt (a b : Str) : Bool := decide (a.cps.toList < b.cps.toList)
def strLe (a b : Str) : Bool := !decide (b.cps.toList < a.cps.toList)
def notNone : D → Bool
  | .none => false
  | _ => true
/-- < of alike data (ints, texts, tuples and lists of such) -/
def ltD (a b : D) : Option Bool := if PySem.W.alike a b && notNone a && dep 30 a && dep 30 b then some (PySem.W.dataLt a b) else none
def leD : D → D → Option Bool
  | .int i, .int j => some (decide (i ≤ j))
  | .str a, .str b => some (strLe a b)
  | _, _ => none
def gtD : D → D → Option Bool
  | .int i, .int j => some (decide (j < i))
  | .str a, .str b => some (strLt b a)
  | .tuple a, .tuple b => ltD (.tuple b) (.tuple a)
  | _, _ => none
def neTup : D → Bool
  | .tuple (_ :: _) => true
  | _ => false
def noTup : D → Bool
  | .tuple _ => false
  | .none => false
  | _ => true
def sortOk (l : List D) : Bool := (l.all fun x => l.all fun y => PySem.W.alike x y) && (l.all neTup || l.all noTup) && l.all (dep 30)
def sortD (l : List D) : Option (List D) := if sortOk l then some (l.mergeSort (PySem.W.dataLe false id)) else none
def bestOk (l : List D) : Bool := (l.all fun x => l.all fun y => PySem.W.alike x y) && l.all notNone && l.all (dep 30)
/-- what a set takes as keys; each once -/
def kdep : Nat → D → Bool
  | _, .none => true
  | _, .int _ => true
  | _, .str _ => true
  | n + 1, .tuple l => l.all (kdep n)
  | _, _ => false
def nubD : List D → List D
  | [] => []
  | x :: xs => x :: (nubD xs).filter fun y => !PyData.eqv y x
/-- a list of nested tuples, of fewer than 77 different ones: what sorted(set(l)) takes -/
def setTOk (l : List D) : Bool := l.all (fun d => kdep 8 d && neTup d) && sortOk (nubD l) && decide ((nubD l).length < 77) && (nubD l).all fun x => (nubD l).all fun y => PyData.eqv x y || PySem.W.dataLt x y || PySem.W.dataLt y x
/-- texts: each once; in order -/
def nub : List Str → List Str
  | [] => []
  | x :: xs => x :: (nub xs).filter fun y => decide (y ≠ x)
def strLE (a b : Str) : Bool := decide (a.cps.toList ≤ b.cps.toList)
def sortS (l : List Str) : List Str := l.mergeSort strLE
def cut {α : Type} (xs : List α) (lo hi : Option Int) : List α := (xs.drop (HT.sIx xs.length 0 lo)).take (HT.sIx xs.length xs.length hi - HT.sIx xs.length 0 lo)
def typ : Ty → D → Option Bool
  | .int, .int _ => some true
  | .int, .bool _ => some true
  | .bool, .bool _ => some true
  | .str, .str _ => some true
  | .tuple, .tuple _ => some true
  | .list, .list _ => some true
  | _, .dict _ => none
  | _, _ => some false
def intsOf : List D → Option (List Int)
  | [] => some []
  | .int i :: r => (intsOf r).map (i :: ·)
  | _ => none
def boolsOf : List D → Option (List Bool)
  | [] => some []
  | .bool b :: r => (boolsOf r).map (b :: ·)
  | _ => none
def fitL : D → Bool
  | .str s => decide (s.length ≤ lim)
  | .list l => decide (l.length ≤ lim)
  | .tuple l => decide (l.length ≤ lim)
  | _ => true
def truthsOf : List D → Option (List Bool)
  | [] => some []
  | d :: r => (truth d).bind fun b => (truthsOf r).map (b :: ·)
def seqOf : D → Option (List D)
  | .list l => some l
  | .tuple l => some l
  | _ => none
def strsOf : List D → Option (List Str)
  | [] => some []
  | .str s :: r => (strsOf r).map (s :: ·)
  | _ => none
def chars (s : Str) : List D := s.cps.toList.map fun c => .str ⟨#[c]⟩
def pairsOf : List D → Option (List (D × D))
  | [] => some []
  | .tuple [k, v] :: r => (pairsOf r).map ((k, v) :: ·)
  | _ => none
/-- a key of a dict: a text or an int (kind false), or a tuple of such (kind true) -/
def keyFor : Bool → D → Bool
  | false, .int _ => true
  | false, .str _ => true
  | true, .tuple l => l.all fun (x : PyData) => match x with | .int _ => true | .str _ => true | _ => false
  | _, _ => false
/-- a dict whose keys are tuples bears a mark ahead -/
def mkD : Bool → List (D × D) → D
  | false, l => .dict l
  | true, l => .dict ((.bool true, .none) :: l)
def dictV : D → Option (Bool × List (D × D))
  | .dict ((.none, _) :: _) => none
  | .dict ((.bool _, _) :: l) => some (true, l)
  | .dict l => some (false, l)
  | _ => none
def putD (l : List (D × D)) (k v : D) : List (D × D) :=
  if (l.any fun p => PyData.eqv p.1 k) = true then l.map (fun p => if PyData.eqv p.1 k = true then (p.1, v) else p) else l ++ [(k, v)]
def getD : List (D × D) → D → Option D
  | [], _ => none
  | (k', v') :: r, k => if PyData.eqv k' k then some v' else getD r k
/-- what stands under a key: none where the dict is not of that key's kind -/
def lookD (d k : D) : Option (Option D) := (dictV d).bind fun p => if keyFor p.1 k then some (getD p.2 k) else none
def rangeL (lo : Int) (n : Nat) : List D := (List.range n).map fun (i : Nat) => .int (lo + (i : Int))
def app1 : O1 → D → Option D
  | .neg, .int i => some (.int (-i))
  | .inv, .int i => some (.int (-i - 1))
  | .not, d => (truth d).map fun b => .bool (!b)
  | .len, .str s => if s.length ≤ lim then some (.int s.length) else none
  | .len, .list l => some (.int l.length)
  | .len, .tuple l => some (.int l.length)
  | .len, .dict l => (dictV (.dict l)).bind fun p => if p.1 then none else some (.int p.2.length)
  | .all, .list l => (boolsOf l).map fun bs => .bool (bs.all id)
  | .any, .list l => (boolsOf l).map fun bs => .bool (bs.any id)
  | .allT, .list l => if l.all (dep 30) && l.all fitL then (truthsOf l).map fun bs => .bool (bs.all id) else none
  | .tupleOf, .list l => some (.tuple l)
  | .tupleOf, .tuple l => some (.tuple l)
  | .tupleOf, .str s => if s.length ≤ lim then some (.tuple (chars s)) else none
  | .listOf, .list l => some (.list l)
  | .listOf, .tuple l => some (.list l)
  | .sorted, .list l => (sortD l).map .list
  | .sorted, .tuple l => (sortD l).map .list
  | .sorted, .dict l => (dictV (.dict l)).bind fun p => (sortD (p.2.map (·.1))).map .list
  | .setLen, d => (seqOf d).bind fun l => (strsOf l).bind fun ss => if ss.length < 4000 then some (.int (nub ss).length) else none
  | .setSorted, d => (seqOf d).bind fun l => (strsOf l).bind fun ss => if ss.length < 4000 then some (.list ((sortS (nub ss)).map .str)) else none
  | .repl y z, .str s => if s.length + (s.length + 1) * z.length ≤ 16777216 ∧ PyData.strOk (Txt.replace s y z) = true then some (.str (Txt.replace s y z)) else none
  | .setT, .list l => if setTOk l then some (.list ((nubD l).mergeSort (PySem.W.dataLe false id))) else none
  | .max, .list (x :: xs) => if bestOk (x :: xs) then some (PySem.W.maxD x xs) else none
  | .min, .list (x :: xs) => if bestOk (x :: xs) then some (PySem.W.minD x xs) else none
  | .sum, .list l => (intsOf l).map fun is => .int is.sum
  | .abs, .int i => some (.int (if i < 0 then -i else i))
  | .str, .int i => if i.natAbs < 100 then some (.str (toString i)) else none
  | .str, .bool b => some (.str (if b then "True" else "False"))
  | .int, .int i => some (.int i)
  | .int, .bool b => some (.int (if b then 1 else 0))
  | .rev, .list l => some (.list l.reverse)
  | .rev, .tuple l => some (.tuple l.reverse)
  | .isN, d => some (.bool (!notNone d))
  | .isNN, d => some (.bool (notNone d))
  | .isi t, d => (typ t d).map .bool
  | .keys, .tuple [.dict l] => (dictV (.dict l)).bind fun p => if p.1 then none else some (.list (p.2.map (·.1)))
  | .keysT, .tuple [.dict l] => (dictV (.dict l)).bind fun p => if p.1 then some (.list (p.2.map (·.1))) else none
  | .values, .tuple [.dict l] => (dictV (.dict l)).bind fun p => if p.1 then some (.list (p.2.map (·.2))) else none
  | .isT, .bool b => some (.bool b)
  | .isF, .bool b => some (.bool (!b))
  | .range, .int n => if n.natAbs ≤ lim then some (.list (rangeL 0 n.toNat)) else none
  | .dictOf, .list l => (pairsOf l).bind fun ps => if ps.all (fun p => keyFor false p.1) then some (.dict (ps.foldl (fun m p => putD m p.1 p.2) [])) else none
  | _, _ => none
def idxOf (x : D) : List D → Option Nat
  | [] => none
  | y :: ys => if PyData.eqv y x then some 0 else (idxOf x ys).map (· + 1)
def app2 : O2 → D → D → Option D
  | .add, .int i, .int j => some (.int (i + j))
  | .add, .bool b, .int j => some (.int ((if b = true then (1 : Int) else 0) + j))
  | .add, .str a, .str b => if a.length + b.length ≤ lim then some (.str (a ++ b)) else none
  | .add, .list a, .list b => if a.length + b.length ≤ lim then some (.list (a ++ b)) else none
  | .add, .tuple a, .tuple b => if a.length + b.length ≤ lim then some (.tuple (a ++ b)) else none
  | .sub, .int i, .int j => some (.int (i - j))
  | .sub, .bool b, .int j => some (.int ((if b = true then (1 : Int) else 0) - j))
  | .mul, .int i, .int j => if j.natAbs < 2 ^ 63 then some (.int (i * j)) else none
  | .mul, .list a, .int j => if a.length * j.toNat ≤ lim ∧ j.natAbs < 2 ^ 60 then some (.list (List.replicate j.toNat a).flatten) else none
  | .mul, .tuple a, .int j => if 2 ≤ j ∧ j ≤ 1000 ∧ 1 ≤ a.length ∧ a.length ≤ 1000 then some (.tuple (List.replicate j.toNat a).flatten) else none
  | .fdiv, .int i, .int j => if 0 < j ∧ j < 1073741824 then some (.int (i / j)) else none
  | .mod, .int i, .int j => if 0 < j then some (.int (i % j)) else none
  | .shl, .int i, .int j => if 0 ≤ j ∧ j ≤ 1000 ∧ i.natAbs < 2 ^ 60 then some (.int (i * 2 ^ j.toNat)) else none
  | .band, .int i, .int j => some (.int (Builtin.bitAnd i j))
  | .eq, a, b => (eqD a b).map .bool
  | .ne, a, b => (eqD a b).map fun x => .bool (!x)
  | .lt, a, b => (ltD a b).map .bool
  | .gt, a, b => (gtD a b).map .bool
  | .le, a, b => (leD a b).map .bool
  | .ge, a, b => (leD b a).map .bool
  | .isin, x, .list l => if dep 60 x && l.all (dep 60) then some (.bool (l.any fun y => PyData.eqv y x)) else none
  | .isin, x, .tuple l => if dep 60 x && l.all (dep 60) then some (.bool (l.any fun y => PyData.eqv y x)) else none
  | .isin, x, .dict l => (lookD (.dict l) x).map fun o => .bool o.isSome
  | .notin, x, .list l => if dep 60 x && l.all (dep 60) then some (.bool (!l.any fun y => PyData.eqv y x)) else none
  | .notin, x, .tuple l => if dep 60 x && l.all (dep 60) then some (.bool (!l.any fun y => PyData.eqv y x)) else none
  | .notin, x, .dict l => (lookD (.dict l) x).map fun o => .bool (!o.isSome)
  | .ix, .list l, .int i => atI l i
  | .ix, .tuple l, .int i => atI l i
  | .ix, .str s, .int i => if s.length ≤ lim then (atI s.cps.toList i).map fun c => .str ⟨#[c]⟩ else none
  | .ix, .dict l, k => (lookD (.dict l) k).join
  | .index, .list l, x => if dep 60 x && l.all (dep 60) then (idxOf x l).map fun (j : Nat) => .int (j : Int) else none
  | .min2, .int i, .int j => some (.int (if j < i then j else i))
  | .dictZip, a, b => (seqOf a).bind fun x => (seqOf b).bind fun y => if x.all (keyFor false) && decide (x.length ≤ 1000) then some (.dict ((x.zip y).foldl (fun m p => putD m p.1 p.2) [])) else none
  | .join, .str a, .list l => (strsOf l).bind fun ys => if (ys.map (·.length)).sum + ys.length * a.length ≤ lim then some (.str (Txt.join a ys)) else none
  | .split, .str a, .str b => if (b.length == 0) = false ∧ a.length + 2 ≤ lim then some (.list ((Txt.split a b).map .str)) else none
  | .endsw, .str a, .str b => some (.bool (Txt.endswith a b))
  | .count, .list l, x => if dep 60 x && l.all (dep 60) then some (.int ((l.filter fun y => PyData.eqv y x).length : Nat)) else none
  | .get1, .dict l, k => (lookD (.dict l) k).map fun o => o.getD .none
  | _, _, _ => none
def slcD (d : D) (lo hi : Option Int) : Option D :=
  match d with
  | .list l => some (.list (cut l lo hi))
  | .tuple l => some (.tuple (cut l lo hi))
  | .str s => if s.length ≤ lim then some (.str ⟨(cut s.cps.toList lo hi).toArray⟩) else none
  | _ => none
def walkL : IK → List D → Option (List D)
  | .plain, [.list l] => some l
  | .plain, [.tuple l] => some l
  | .plain, [.str s] => if s.length ≤ lim then some (chars s) else none
  | .plain, [.dict [(.none, .list l)]] => some l
  | .range1, [.int n] => if n.natAbs ≤ lim then some (rangeL 0 n.toNat) else none
  | .range2, [.int a, .int b] => if a.natAbs ≤ 1000000 ∧ b.natAbs ≤ 1000000 then some (rangeL a (b - a).toNat) else none
  | .zip2, [a, b] => (seqOf a).bind fun x => (seqOf b).map fun y => (x.zip y).map fun p => .tuple [p.1, p.2]
  | .zip3, [a, b, c] => (seqOf a).bind fun x => (seqOf b).bind fun y => (seqOf c).map fun z => (x.zip (y.zip z)).map fun p => .tuple [p.1, p.2.1, p.2.2]
  | .enum, [a] => (seqOf a).map fun x => (x.zipIdx).map fun p => .tuple [.int (p.2 : Nat), p.1]
  | .enumZip, [a, b] => (seqOf a).bind fun x => (seqOf b).map fun y => ((x.zip y).zipIdx).map fun p => .tuple [.int (p.2 : Nat), .tuple [p.1.1, p.1.2]]
  | _, _ => none
def getV (env : Env) (i : Nat) : Option D :=
  match env[i]? with
  | some (.val d) => some d
  | _ => none
def getB (env : Env) (i : Nat) : Option D :=
  match env[i]? with
  | some (.val d) => some d
  | some (.own d) => some d
  | _ => none
def orB (env : Env) (a : E) (r : M D) : M D :=
  match a with
  | .var i => liftO (getB env i)
  | _ => r
mutual
def asgT : Tg → D → Env → Option Env
  | .n i, d, env => if i < env.length then some (env.set i (.val d)) else none
  | .t ts, .tuple l, env => asgTs ts l env
  | .t ts, .list l, env => asgTs ts l env
  | _, _, _ => none
def asgTs : List Tg → List D → Env → Option Env
  | [], [], env => some env
  | t :: ts, d :: ds, env => (asgT t d env).bind fun e => asgTs ts ds e
  | _, _, _ => none
end
def wipeE (env : Env) : List Nat → Env
  | [] => env
  | v :: vs => (wipeE env vs).set v .no
def isLst : D → Bool
  | .list _ => true
  | _ => false
def listOf : D → List D
  | .list l => l
  | _ => []
def flatD (l : List D) : List D := (l.map listOf).flatten
/-- filter and map within one walk, from the left -/
def compL (f : D → M (Option D)) : List D → M (List D)
  | [] => pure []
  | d :: r => do
    let o ← f d
    let rest ← compL f r
    pure (match o with | some x => x :: rest | none => rest)
def noX {α : Type} (x : M α) : M α := fun st =>
  match x st with
  | some (.ok a, st1) => some (.ok a, st1)
  | _ => none
def tru (d : D) : M Bool := liftO (truth d)
/-- the draws' list and the script, as they are asked by _law_draw -/
def absL : List D → List D
  | [] => []
  | .int i :: r => .int (if i < 0 then -i else i) :: absL r
  | x :: r => x :: absL r
def isTok : D → Bool
  | .dict [(.none, .none)] => true
  | _ => false
def scrOf : D → Option (List D)
  | .dict [(.none, .list l)] => some l
  | _ => none
def tokOp : Nat → DSt → Option D
  | 0, st => some (.int st.length)
  | 1, n :: _ => some (.int n)
  | 2, st => some (.bool (!st.isEmpty))
  | _, _ => none
def scrOp : Nat → List D → D → Option D
  | 3, l, _ => some (.int l.length)
  | 4, l, .int j => atI l j
  | 5, l, _ => some (.bool (!l.isEmpty))
  | 6, l, _ => app1 .max (.list (absL l ++ [.int 0]))
  | _, _, _ => none
def opTok (o : Nat) (x y : D) : M D := fun st =>
  if isTok x then (tokOp o st).map fun d => (.ok d, st) else ((scrOf x).bind fun l => scrOp o l y).map fun d => (.ok d, st)
def intOf : D → Option Int
  | .int n => some n
  | _ => none
def appTok (n : Int) : M Unit := fun st => if st.length < lim then some (.ok (), st ++ [n]) else none
def setTok (n : Int) : M Unit := fun st => match st with
  | [] => none
  | _ :: r => some (.ok (), n :: r)
mutual
def ev (Γ : List FnSem) (env : Env) : E → M D
  | .con d => pure d
  | .var i => liftO (getV env i)
  | .tup es => do
    let ds ← evs Γ env es
    if ds.length ≤ lim then pure (.tuple ds) else fail
  | .lst es => do
    let ds ← evs Γ env es
    if ds.length ≤ lim then pure (.list ds) else fail
  | .op1 o a => do
    let x ← orB env a (ev Γ env a)
    liftO (app1 o x)
  | .op2 o a b => do
    let x ← orB env a (ev Γ env a)
    let y ← orB env b (ev Γ env b)
    liftO (app2 o x y)
  | .op3 o a b _ => do
    let x ← orB env a (ev Γ env a)
    let y ← orB env b (ev Γ env b)
    opTok o x y
  | .chain o o' a b c => do
    let x ← orB env a (ev Γ env a)
    let y ← orB env b (ev Γ env b)
    let r ← liftO (app2 o x y)
    match r with
    | .bool true => do
      let z ← orB env c (ev Γ env c)
      liftO (app2 o' y z)
    | .bool false => pure (.bool false)
    | _ => fail
  | .and a b => do
    let x ← ev Γ env a
    let k ← tru x
    if k then ev Γ env b else pure x
  | .or a b => do
    let x ← ev Γ env a
    let k ← tru x
    if k then pure x else ev Γ env b
  | .ite c a b => do
    let x ← orB env c (ev Γ env c)
    let k ← tru x
    if k then ev Γ env a else ev Γ env b
  | .slc a lo hi => do
    let x ← orB env a (ev Γ env a)
    let l ← evo Γ env lo
    let h ← evo Γ env hi
    liftO (slcD x l h)
  | .call j es => do
    let ds ← evs Γ env es
    (Γ.getD j (fun _ => fail)) ds
  | .comp own tg k src conds elt => do
    let ds ← evsB Γ env src
    let items ← liftO (walkL k ds)
    let out ← noX (compL (fun d => do
      let env1 ← liftO (asgT tg d (wipeE env own))
      let b ← evc Γ env1 conds
      if b then do
        let x ← ev Γ env1 elt
        pure (some x)
      else pure none) items)
    pure (.list out)
  | .compX own tg k src conds elt => do
    let ds ← evsB Γ env src
    let items ← liftO (walkL k ds)
    let out ← compL (fun d => do
      let env1 ← liftO (asgT tg d (wipeE env own))
      let b ← noX (evc Γ env1 conds)
      if b then do
        let x ← ev Γ env1 elt
        pure (some x)
      else pure none) items
    pure (.list out)
  | .comp2 own tg k src own1 tg1 k1 src1 conds elt => do
    let ds ← evsB Γ env src
    let items ← liftO (walkL k ds)
    let out ← noX (compL (fun d => do
      let env1 ← liftO (asgT tg d (wipeE env (own ++ own1)))
      let ds1 ← evs Γ env1 src1
      let items1 ← liftO (walkL k1 ds1)
      let out ← compL (fun d1 => do
        let env2 ← liftO (asgT tg1 d1 (wipeE env1 own1))
        let b ← evc Γ env2 conds
        if b then do
          let x ← ev Γ env2 elt
          pure (some x)
        else pure none) items1
      pure (some (.list out))) items)
    if (flatD out).length ≤ lim then pure (.list (flatD out)) else fail
  | .dict t ks vs => do
    let a ← evs Γ env ks
    let b ← evs Γ env vs
    if (a.all (keyFor t)) && a.length ≤ 1 && b.length = a.length then pure (mkD t ((a.zip b).foldl (fun m p => putD m p.1 p.2) [])) else fail
  | .get a b c => do
    let x ← orB env a (ev Γ env a)
    if (dictV x).isSome then do
      let y ← orB env b (ev Γ env b)
      let o ← liftO (lookD x y)
      pure (o.getD c)
    else fail
  | .idx a b => do
    let x ← orB env a (ev Γ env a)
    if isLst x then do
      let y ← orB env b (ev Γ env b)
      liftO (app2 .index x y)
    else fail
def evs (Γ : List FnSem) (env : Env) : List E → M (List D)
  | [] => pure []
  | e :: es => do
    let d ← ev Γ env e
    let ds ← evs Γ env es
    pure (d :: ds)
/-- sources of a walk: borrowed -/
def evsB (Γ : List FnSem) (env : Env) : List E → M (List D)
  | [] => pure []
  | e :: es => do
    let d ← orB env e (ev Γ env e)
    let ds ← evsB Γ env es
    pure (d :: ds)
/-- all tests hold -/
def evc (Γ : List FnSem) (env : Env) : List E → M Bool
  | [] => pure true
  | e :: es => do
    let d ← ev Γ env e
    let k ← tru d
    if k then evc Γ env es else pure false
def evo (Γ : List FnSem) (env : Env) : Option E → M (Option Int)
  | none => pure none
  | some e => do
    let d ← ev Γ env e
    match d with
    | .int i => pure (some i)
    | _ => fail
end
def frz (env : Env) : List Nat → Env
  | [] => env
  | i :: r =>
    let env1 := frz env r
    match env1[i]? with
    | some (.own d) => env1.set i (.val d)
    | _ => env1
mutual
/-- names whose own object would be handed on by e -/
def esc : E → List Nat
  | .con _ => []
  | .var i => [i]
  | .tup es => escs es
  | .lst es => escs es
  | .op1 _ a => escB a
  | .op2 _ a b => escB a ++ escB b
  | .op3 _ _ _ _ => []
  | .chain _ _ a b c => escB a ++ escB b ++ escB c
  | .and a b => esc a ++ esc b
  | .or a b => esc a ++ esc b
  | .ite c a b => escB c ++ esc a ++ esc b
  | .slc a lo hi => escB a ++ esco lo ++ esco hi
  | .call _ es => escs es
  | .comp own _ _ src conds elt => escsB src ++ (escs conds ++ esc elt).filter fun i => !own.contains i
  | .compX own _ _ src conds elt => escsB src ++ (escs conds ++ esc elt).filter fun i => !own.contains i
  | .comp2 own _ _ src own1 _ _ src1 conds elt => escsB src ++ (escs src1 ++ escs conds ++ esc elt).filter fun i => !(own ++ own1).contains i
  | .dict _ ks vs => escs ks ++ escs vs
  | .get a b _ => escB a ++ escB b
  | .idx a b => escB a ++ escB b
def escB : E → List Nat
  | .var _ => []
  | .con _ => []
  | .tup es => escs es
  | .lst es => escs es
  | .op1 _ a => escB a
  | .op2 _ a b => escB a ++ escB b
  | .op3 _ _ _ _ => []
  | .chain _ _ a b c => escB a ++ escB b ++ escB c
  | .and a b => esc a ++ esc b
  | .or a b => esc a ++ esc b
  | .ite c a b => escB c ++ esc a ++ esc b
  | .slc a lo hi => escB a ++ esco lo ++ esco hi
  | .call _ es => escs es
  | .comp own _ _ src conds elt => escsB src ++ (escs conds ++ esc elt).filter fun i => !own.contains i
  | .compX own _ _ src conds elt => escsB src ++ (escs conds ++ esc elt).filter fun i => !own.contains i
  | .comp2 own _ _ src own1 _ _ src1 conds elt => escsB src ++ (escs src1 ++ escs conds ++ esc elt).filter fun i => !(own ++ own1).contains i
  | .dict _ ks vs => escs ks ++ escs vs
  | .get a b _ => escB a ++ escB b
  | .idx a b => escB a ++ escB b
def escs : List E → List Nat
  | [] => []
  | e :: es => esc e ++ escs es
def escsB : List E → List Nat
  | [] => []
  | e :: es => escB e ++ escsB es
def esco : Option E → List Nat
  | none => []
  | some e => esc e
end
def setS (env : Env) (i : Nat) (s : Slot) : M Env := if i < env.length then pure (env.set i s) else fail
def ownL (env : Env) (i : Nat) : Option (List D) :=
  match env[i]? with
  | some (.own (.list l)) => some l
  | _ => none
def forL (tg : Tg) (b : Env → M (Fl × Env)) : List D → Env → M (Fl × Env)
  | [], env => pure (.nx, env)
  | d :: r, env => do
    let env1 ← liftO (asgT tg d env)
    let p ← b env1
    match p.1 with
    | .nx => forL tg b r p.2
    | .rt v => pure (.rt v, p.2)
def whL (c : Env → M Bool) (b : Env → M (Fl × Env)) : Nat → Env → M (Fl × Env)
  | 0, _ => fail
  | n + 1, env => do
    let k ← c env
    if k then do
      let p ← b env
      match p.1 with
      | .nx => whL c b n p.2
      | .rt v => pure (.rt v, p.2)
    else pure (.nx, env)
def tryM (x : M D) (hs : List (Str × D)) : M D := fun st =>
  match x st with
  | some (.error c, st1) => (match hs.lookup c with
    | some d => some (.ok d, st1)
    | none => none)
  | r => r
def ownB : Bool → D → Bool
  | false, _ => true
  | true, .list _ => true
  | true, .dict ((.none, _) :: _) => false
  | true, .dict _ => true
  | _, _ => false
def setAll : List (Nat × Bool) → List D → Env → M Env
  | [], [], env => pure env
  | (i, o) :: r, d :: ds, env => do
      let env1 ← setS env i (if o then .own d else .val d)
      setAll r ds env1
  | _, _, _ => fail
def evsP (Γ : List FnSem) (env : Env) : List Bool → List E → M (List D)
  | [], [] => pure []
  | f :: fs, e :: es => do
    let d ← ev Γ env e
    if ownB f d then do
      let ds ← evsP Γ env fs es
      pure (d :: ds)
    else fail
  | _, _ => fail
def tst (Γ : List FnSem) (c : E) (env : Env) : M Bool := do
  let d ← orB env c (ev Γ env c)
  tru d
def storeD (o : D) (k v : D) : Option D :=
  match o with
  | .list l => (match k with
    | .int i => (ixN l.length i).map fun j => .list (l.set j v)
    | _ => none)
  | .dict l => (dictV (.dict l)).bind fun p => if keyFor p.1 k && decide (p.2.length < lim) then some (mkD p.1 (putD p.2 k v)) else none
  | _ => none
def fuel : Nat := 1000000
mutual
def ex (Γ : List FnSem) : S → Env → M (Fl × Env)
  | .asg o i e, env => do
    let env1 := frz env (esc e)
    let d ← ev Γ env1 e
    if ownB o d then do
      let env2 ← setS env1 i (if o then .own d else .val d)
      pure (.nx, env2)
    else fail
  | .unp tg e, env => do
    let env1 := frz env (esc e)
    let d ← ev Γ env1 e
    let env2 ← liftO (asgT tg d env1)
    pure (.nx, env2)
  | .par is es, env => do
    let env1 := frz env (escs es)
    let ds ← evsP Γ env1 (is.map (·.2)) es
    let env2 ← setAll is ds env1
    pure (.nx, env2)
  | .append i e, env => do
    let env1 := frz env (esc e)
    let l ← liftO (ownL env1 i)
    let d ← ev Γ env1 e
    if l.length < lim then pure (.nx, env1.set i (.own (.list (l ++ [d])))) else fail
  | .extend i e, env => do
    let l ← liftO (ownL env i)
    let d ← ev Γ env e
    let m ← liftO (seqOf d)
    if l.length + m.length ≤ lim then pure (.nx, env.set i (.own (.list (l ++ m)))) else fail
  | .store i k e, env => do
    let env1 := frz env (esc e)
    match env1[i]? with
    | some (.own o) => do
      let d ← ev Γ env1 e
      let kd ← ev Γ env1 k
      let o1 ← liftO (storeD o kd d)
      pure (.nx, env1.set i (.own o1))
    | _ => fail
  | .store2 i k e k' e', env => do
    let env1 := frz env (esc e ++ esc e')
    let d ← ev Γ env1 e
    let d' ← ev Γ env1 e'
    match env1[i]? with
    | some (.own o) => do
      let kd ← ev Γ env1 k
      let o1 ← liftO (storeD o kd d)
      let env2 := env1.set i (.own o1)
      let kd' ← ev Γ env2 k'
      let o2 ← liftO (storeD o1 kd' d')
      pure (.nx, env2.set i (.own o2))
    | _ => fail
  | .appPop i j e, env => do
    let l ← liftO (ownL env i)
    let m ← liftO (ownL env j)
    let d ← ev Γ env e
    match d with
    | .int n => if 0 ≤ n ∧ n < 1000000000 ∧ l.length < lim ∧ i ≠ j then (match m[n.toNat]? with
        | some x => pure (.nx, (env.set j (.own (.list (m.eraseIdx n.toNat)))).set i (.own (.list (l ++ [x]))))
        | none => fail) else fail
    | _ => fail
  | .ite c a b, env => do
    let k ← tst Γ c env
    if k then exs Γ a env else exs Γ b env
  | .iteF c a b, env => do
    let env1 := frz env (esc c)
    let k ← tst Γ c env1
    if k then exs Γ a env1 else exs Γ b env1
  | .for tg k src b, env => do
    let env1 := frz env (escs src)
    let ds ← evs Γ env1 src
    let items ← liftO (walkL k ds)
    forL tg (exs Γ b) items env1
  | .while c b, env => whL (tst Γ c) (exs Γ b) fuel env
  | .ret e, env => do
    let env1 := frz env (esc e)
    let d ← ev Γ env1 e
    pure (.rt d, env1)
  | .exp e, env => do
    let _ ← ev Γ env e
    pure (.nx, env)
  | .raise c, _ => throwX c
  | .tryR e hs, env => do
    let d ← tryM (ev Γ env e) hs
    pure (.rt d, env)
  | .tokApp i e, env => do
    let t ← liftO (getV env i)
    if isTok t then do
      let d ← ev Γ env e
      let n ← liftO (intOf d)
      let _ ← appTok n
      pure (.nx, env)
    else fail
  | .tokSet i e, env => do
    let t ← liftO (getV env i)
    if isTok t then do
      let d ← ev Γ env e
      let n ← liftO (intOf d)
      let _ ← setTok n
      pure (.nx, env)
    else fail
  | .cust f, env => f Γ env
def exs (Γ : List FnSem) : List S → Env → M (Fl × Env)
  | [], env => pure (.nx, env)
  | s :: r, env => do
    let p ← ex Γ s env
    match p.1 with
    | .nx => exs Γ r p.2
    | .rt v => pure (.rt v, p.2)
end
structure Fn where
  np : Nat
  nl : Nat
  body : List S
def run (Γ : List FnSem) (f : Fn) : FnSem := fun ds =>
  if ds.length = f.np then do
    let p ← exs Γ f.body (ds.map .val ++ List.replicate (f.nl - f.np) .no)
    match p.1 with
    | .rt d => pure d
    | .nx => pure .none
  else fail
end TK
namespace TK
open PySem PySem.Spec PyProof.Rows L2
def hid (H : Hp) (O : Addr → Bool) : Hp := fun a => if O a = true then none else H a
theorem hid_of {H : Hp} {O : Addr → Bool} {a : Addr} (h : O a = false) : hid H O a = H a := by
  unfold hid; rw [h]; rfl
theorem hid_no {H : Hp} {O : Addr → Bool} {a : Addr} (h : O a = true) : hid H O a = none := by
  unfold hid; rw [h]; rfl
theorem hid_some {H : Hp} {O : Addr → Bool} {a : Addr} {o : HO} (h : hid H O a = some o) : O a = false ∧ H a = some o := by
  unfold hid at h
  cases e : O a with
  | true => rw [e] at h; cases h
  | false => rw [e] at h; exact ⟨rfl, h⟩
def keyD : Key → D
  | .inl i => .int i
  | .inr x => .str x
def keyS : Key → Bool
  | .inl _ => true
  | .inr x => PyData.strOk x
/-- what may become of an object that is not written: it stands, or (a dict) it is locked for good -/
def Kp (o o' : HO) : Prop := o' = o ∨ ∃ od, o' = .frz od o ∧ ((∃ k, o = .dK k) ∨ ∃ k, o = .dT k)
theorem Kp.refl (o : HO) : Kp o o := .inl rfl
theorem Kp.trans {a b c : HO} (h : Kp a b) (h' : Kp b c) : Kp a c := by
  rcases h with rfl | ⟨od, rfl, q⟩
  · exact h'
  · rcases h' with rfl | ⟨od', rfl, q'⟩
    · exact .inr ⟨od, rfl, q⟩
    · rcases q' with ⟨k, z⟩ | ⟨k, z⟩ <;> cases z
theorem Kp.lst {xs : List V} {o : HO} (h : Kp (.lst xs) o) : o = .lst xs := by
  rcases h with h | ⟨od, _, ⟨k, z⟩ | ⟨k, z⟩⟩
  · exact h
  · cases z
  · cases z
theorem Kp.tup {xs : List V} {o : HO} (h : Kp (.tup xs) o) : o = .tup xs := by
  rcases h with h | ⟨od, _, ⟨k, z⟩ | ⟨k, z⟩⟩
  · exact h
  · cases z
  · cases z
theorem Kp.frz {od : Obj} {u o : HO} (h : Kp (.frz od u) o) : o = .frz od u := by
  rcases h with h | ⟨od, _, ⟨k, z⟩ | ⟨k, z⟩⟩
  · exact h
  · cases z
  · cases z
def Le (G G' : Hp) : Prop := ∀ a o, G a = some o → ∃ o', G' a = some o' ∧ Kp o o'
theorem Le.refl (G : Hp) : Le G G := fun _ o h => ⟨o, h, .refl o⟩
theorem Le.trans {G G1 G2 : Hp} (a : Le G G1) (b : Le G1 G2) : Le G G2 := fun x o h => by
  obtain ⟨o1, e1, k1⟩ := a x o h
  obtain ⟨o2, e2, k2⟩ := b x o1 e1
  exact ⟨o2, e2, k1.trans k2⟩
theorem Le.lst {G G' : Hp} (h : Le G G') {a : Addr} {xs : List V} (q : G a = some (.lst xs)) : G' a = some (.lst xs) := by
  obtain ⟨o, e, k⟩ := h a _ q
  rw [e, k.lst]
theorem Le.tup {G G' : Hp} (h : Le G G') {a : Addr} {xs : List V} (q : G a = some (.tup xs)) : G' a = some (.tup xs) := by
  obtain ⟨o, e, k⟩ := h a _ q
  rw [e, k.tup]
theorem Le.frz {G G' : Hp} (h : Le G G') {a : Addr} {od : Obj} {u : HO} (q : G a = some (.frz od u)) : G' a = some (.frz od u) := by
  obtain ⟨o, e, k⟩ := h a _ q
  rw [e, k.frz]
theorem Le.dK {G G' : Hp} (h : Le G G') {a : Addr} {xs : List (Key × V)} (q : Rd G a (.dK xs)) : Rd G' a (.dK xs) := by
  rcases q with q | ⟨od, q⟩
  · obtain ⟨o, e, k⟩ := h a _ q
    rcases k with rfl | ⟨od, rfl, _⟩
    · exact .inl e
    · exact .inr ⟨od, e⟩
  · obtain ⟨o, e, k⟩ := h a _ q
    rw [k.frz] at e
    exact .inr ⟨od, e⟩
theorem Le.dT {G G' : Hp} (h : Le G G') {a : Addr} {xs : List (List Key × V)} (q : Rd G a (.dT xs)) : Rd G' a (.dT xs) := by
  rcases q with q | ⟨od, q⟩
  · obtain ⟨o, e, k⟩ := h a _ q
    rcases k with rfl | ⟨od, rfl, _⟩
    · exact .inl e
    · exact .inr ⟨od, e⟩
  · obtain ⟨o, e, k⟩ := h a _ q
    rw [k.frz] at e
    exact .inr ⟨od, e⟩
theorem Le.sqL {K : PySem.W.Frag} {G G' : Hp} (h : Le G G') {a : Addr} {xs : List V} (q : SqL K G a xs) : SqL K G' a xs := by
  rcases q with (q | ⟨od, q⟩) | q
  · exact .inl (.inl (h.lst q))
  · obtain ⟨o, e, k⟩ := h a _ q
    rw [k.frz] at e
    exact .inl (.inr ⟨od, e⟩)
  · exact .inr q
/-- the draws' list, the script's list and its ints -/
structure Dr where
  ps : Addr
  sa : Addr
  ns : List Int
  T : List Addr
mutual
inductive Rp (w : Dr) (G : Hp) : V → D → Prop
  | non : Rp w G .non .none
  | bl (b : Bool) : Rp w G (.bl b) (.bool b)
  | int (i : Int) : Rp w G (.int i) (.int i)
  | str (x : Str) (h : PyData.strOk x = true) : Rp w G (.str x) (.str x)
  | lst {a : Addr} {xs : List V} {ds : List D} : G a = some (.lst xs) → RpAll w G xs ds → Rp w G (.ref a) (.list ds)
  | tup {a : Addr} {xs : List V} {ds : List D} : G a = some (.tup xs) → RpAll w G xs ds → Rp w G (.ref a) (.tuple ds)
  | dK {a : Addr} {kvs : List (Key × V)} {l : List (D × D)} : Rd G a (.dK kvs) → RpKV w G kvs l → Rp w G (.ref a) (.dict l)
  | dT {a : Addr} {kvs : List (List Key × V)} {l : List (D × D)} : Rd G a (.dT kvs) → RpKT w G kvs l → Rp w G (.ref a) (mkD true l)
  | tok : Rp w G (.ref w.ps) tok
  | scr : Rp w G (.ref w.sa) (scr w.ns)
  | opq {a : Addr} (i : Nat) : w.T[i]? = some a → Rp w G (.ref a) (opq i)
inductive RpAll (w : Dr) (G : Hp) : List V → List D → Prop
  | nil : RpAll w G [] []
  | cons {v : V} {vs : List V} {d : D} {ds : List D} : Rp w G v d → RpAll w G vs ds → RpAll w G (v :: vs) (d :: ds)
inductive RpKV (w : Dr) (G : Hp) : List (Key × V) → List (D × D) → Prop
  | nil : RpKV w G [] []
  | cons {k : Key} {v : V} {r : List (Key × V)} {d : D} {l : List (D × D)} : keyS k = true → Rp w G v d → RpKV w G r l → RpKV w G ((k, v) :: r) ((keyD k, d) :: l)
inductive RpKT (w : Dr) (G : Hp) : List (List Key × V) → List (D × D) → Prop
  | nil : RpKT w G [] []
  | cons {k : List Key} {v : V} {r : List (List Key × V)} {d : D} {l : List (D × D)} : k.all keyS = true → Rp w G v d → RpKT w G r l → RpKT w G ((k, v) :: r) ((.tuple (k.map keyD), d) :: l)
end
section
variable {w : Dr} {G G' : Hp}
mutual
theorem Rp.mono (h : Le G G') : ∀ {v : V} {d : D}, Rp w G v d → Rp w G' v d
  | _, _, .non => .non
  | _, _, .bl b => .bl b
  | _, _, .int i => .int i
  | _, _, .str x q => .str x q
  | _, _, .lst a b => .lst (h.lst a) (RpAll.mono h b)
  | _, _, .tup a b => .tup (h.tup a) (RpAll.mono h b)
  | _, _, .dK a b => .dK (h.dK a) (RpKV.mono h b)
  | _, _, .dT a b => .dT (h.dT a) (RpKT.mono h b)
  | _, _, .tok => .tok
  | _, _, .scr => .scr
  | _, _, .opq i h => .opq i h
theorem RpAll.mono (h : Le G G') : ∀ {v : List V} {d : List D}, RpAll w G v d → RpAll w G' v d
  | _, _, .nil => .nil
  | _, _, .cons a b => .cons (Rp.mono h a) (RpAll.mono h b)
theorem RpKV.mono (h : Le G G') : ∀ {v : List (Key × V)} {d : List (D × D)}, RpKV w G v d → RpKV w G' v d
  | _, _, .nil => .nil
  | _, _, .cons k a b => .cons k (Rp.mono h a) (RpKV.mono h b)
theorem RpKT.mono (h : Le G G') : ∀ {v : List (List Key × V)} {d : List (D × D)}, RpKT w G v d → RpKT w G' v d
  | _, _, .nil => .nil
  | _, _, .cons k a b => .cons k (Rp.mono h a) (RpKT.mono h b)
end
theorem RpAll.length : ∀ {v : List V} {d : List D}, RpAll w G v d → v.length = d.length
  | _, _, .nil => rfl
  | _, _, .cons _ b => by rw [List.length_cons, List.length_cons, RpAll.length b]
theorem RpAll.get : ∀ {v : List V} {d : List D} {i : Nat} {x : V}, RpAll w G v d → v[i]? = some x → ∃ y, d[i]? = some y ∧ Rp w G x y
  | _, _, _, _, .nil, h => by simp at h
  | _, _, 0, _, .cons a _, h => by
    cases h
    exact ⟨_, rfl, a⟩
  | _, _, i + 1, _, .cons _ b, h => RpAll.get (i := i) b (by simpa using h)
theorem RpAll.get' : ∀ {v : List V} {d : List D} {i : Nat} {y : D}, RpAll w G v d → d[i]? = some y → ∃ x, v[i]? = some x ∧ Rp w G x y
  | _, _, _, _, .nil, h => by simp at h
  | _, _, 0, _, .cons a _, h => by
    cases h
    exact ⟨_, rfl, a⟩
  | _, _, i + 1, _, .cons _ b, h => RpAll.get' (i := i) b (by simpa using h)
theorem RpAll.append : ∀ {v v' : List V} {d d' : List D}, RpAll w G v d → RpAll w G v' d' → RpAll w G (v ++ v') (d ++ d')
  | _, _, _, _, .nil, h => h
  | _, _, _, _, .cons a b, h => .cons a (RpAll.append b h)
theorem RpAll.drop : ∀ {v : List V} {d : List D} (n : Nat), RpAll w G v d → RpAll w G (v.drop n) (d.drop n)
  | _, _, 0, h => h
  | _, _, _ + 1, .nil => .nil
  | _, _, n + 1, .cons _ b => RpAll.drop n b
theorem RpAll.take : ∀ {v : List V} {d : List D} (n : Nat), RpAll w G v d → RpAll w G (v.take n) (d.take n)
  | _, _, 0, _ => .nil
  | _, _, _ + 1, .nil => .nil
  | _, _, n + 1, .cons a b => .cons a (RpAll.take n b)
theorem RpAll.cut {v : List V} {d : List D} (lo hi : Option Int) (h : RpAll w G v d) : RpAll w G (cutV v lo hi) (cut d lo hi) := by
  unfold cutV TK.cut
  rw [h.length]
  exact (h.drop _).take _
theorem RpAll.reverse : ∀ {v : List V} {d : List D}, RpAll w G v d → RpAll w G v.reverse d.reverse
  | _, _, .nil => .nil
  | _, _, .cons a b => by
    rw [List.reverse_cons, List.reverse_cons]
    exact (RpAll.reverse b).append (.cons a .nil)
theorem RpAll.set {x : V} {y : D} (q : Rp w G x y) : ∀ {v : List V} {d : List D} (i : Nat), RpAll w G v d → RpAll w G (v.set i x) (d.set i y)
  | _, _, _, .nil => .nil
  | _, _, 0, .cons _ b => .cons q b
  | _, _, i + 1, .cons a b => .cons a (RpAll.set q i b)
theorem RpAll.eraseIdx : ∀ {v : List V} {d : List D} (i : Nat), RpAll w G v d → RpAll w G (v.eraseIdx i) (d.eraseIdx i)
  | _, _, _, .nil => .nil
  | _, _, 0, .cons _ b => b
  | _, _, i + 1, .cons a b => .cons a (RpAll.eraseIdx i b)
end
/-- the heap goes on: what is hidden stands (but the draws), what may be read may be read -/
structure Ext (O : Addr → Bool) (ps : Addr) (H H' : Hp) : Prop where
  own : ∀ b o, O b = true → b ≠ ps → H b = some o → H' b = some o
  rd : ∀ b o, O b = false → H b = some o → ∃ o', H' b = some o' ∧ Kp o o'
theorem Ext.refl {O : Addr → Bool} {ps : Addr} {H : Hp} : Ext O ps H H := ⟨fun _ _ _ _ h => h, fun _ o _ h => ⟨o, h, .refl o⟩⟩
theorem Ext.trans {O : Addr → Bool} {ps : Addr} {H H1 H2 : Hp} (a : Ext O ps H H1) (b : Ext O ps H1 H2) : Ext O ps H H2 :=
  ⟨fun x o h n e => b.own x o h n (a.own x o h n e), fun x o h e => by
    obtain ⟨o1, e1, k1⟩ := a.rd x o h e
    obtain ⟨o2, e2, k2⟩ := b.rd x o1 h e1
    exact ⟨o2, e2, k1.trans k2⟩⟩
theorem Ext.le {O : Addr → Bool} {ps : Addr} {H H' : Hp} (e : Ext O ps H H') : Le (hid H O) (hid H' O) := fun a o h => by
  obtain ⟨q, h⟩ := hid_some h
  obtain ⟨o', e', k⟩ := e.rd a o q h
  exact ⟨o', by rw [hid_of q]; exact e', k⟩
/-- a new object -/
theorem Ext.new {O : Addr → Bool} {ps : Addr} {H : Hp} {p : Addr} {o : HO} (h : H p = none) : Ext O ps H (upd H p o) :=
  ⟨fun b u _ _ e => by rw [upd_ne (ne_of_none e h)]; exact e, fun b u _ e => ⟨u, by rw [upd_ne (ne_of_none e h)]; exact e, .refl u⟩⟩
theorem hid_mono {H : Hp} {O O' : Addr → Bool} (h : ∀ a, O' a = true → O a = true) : Le (hid H O) (hid H O') := fun a o e => by
  obtain ⟨e1, e2⟩ := hid_some e
  have : O' a = false := by
    cases z : O' a with
    | false => rfl
    | true => rw [h a z] at e1; cases e1
  exact ⟨o, by rw [hid_of this]; exact e2, .refl o⟩
theorem hid_le {H : Hp} {O : Addr → Bool} : Le (hid H O) H := fun a o q => ⟨o, (hid_some q).2, .refl o⟩
/-- what an own name holds -/
inductive OwnAt (w : Dr) (O : Addr → Bool) (H : Hp) (p : Addr) : D → Prop
  | lst {xs : List V} {ds : List D} : H p = some (.lst xs) → RpAll w (hid H O) xs ds → OwnAt w O H p (.list ds)
  | dK {kvs : List (Key × V)} {l : List (D × D)} : H p = some (.dK kvs) → RpKV w (hid H O) kvs l → OwnAt w O H p (.dict l)
  | dT {kvs : List (List Key × V)} {l : List (D × D)} : H p = some (.dT kvs) → RpKT w (hid H O) kvs l → OwnAt w O H p (mkD true l)
/-- a borrowed value: read whole, not handed on -/
def Bp (w : Dr) (O : Addr → Bool) (H : Hp) (v : V) (d : D) : Prop :=
  Rp w (hid H O) v d ∨ ∃ p, v = .ref p ∧ O p = true ∧ p ≠ w.ps ∧ OwnAt w O H p d
section
variable {w : Dr} {O : Addr → Bool} {H H' : Hp} {v : V} {p : Addr} {d : D}
theorem OwnAt.ext (e : Ext O w.ps H H') (ho : O p = true) (hp : p ≠ w.ps) (h : OwnAt w O H p d) : OwnAt w O H' p d := by
  cases h with
  | lst a b => exact .lst (e.own _ _ ho hp a) (b.mono e.le)
  | dK a b => exact .dK (e.own _ _ ho hp a) (b.mono e.le)
  | dT a b => exact .dT (e.own _ _ ho hp a) (b.mono e.le)
theorem Bp.ext (e : Ext O w.ps H H') (h : Bp w O H v d) : Bp w O H' v d := by
  rcases h with h | ⟨p, rfl, h1, h2, h3⟩
  · exact .inl (h.mono e.le)
  · exact .inr ⟨p, rfl, h1, h2, h3.ext e h1 h2⟩
theorem Bp.list {ds : List D} (h : Bp w O H v (.list ds)) : ∃ a xs, v = .ref a ∧ H a = some (.lst xs) ∧ RpAll w (hid H O) xs ds := by
  rcases h with h | ⟨p, rfl, _, _, h⟩
  · cases h with
    | lst a b => exact ⟨_, _, rfl, (hid_some a).2, b⟩
  · cases h with
    | lst a b => exact ⟨_, _, rfl, a, b⟩
theorem Bp.tuple {ds : List D} (h : Bp w O H v (.tuple ds)) : ∃ a xs, v = .ref a ∧ H a = some (.tup xs) ∧ RpAll w (hid H O) xs ds := by
  rcases h with h | ⟨p, rfl, _, _, h⟩
  · cases h with
    | tup a b => exact ⟨_, _, rfl, (hid_some a).2, b⟩
  · cases h
theorem Bp.tupleR {ds : List D} (h : Bp w O H v (.tuple ds)) : Rp w (hid H O) v (.tuple ds) := by
  rcases h with h | ⟨p, rfl, _, _, h⟩
  · exact h
  · cases h
theorem Bp.int {i : Int} (h : Bp w O H v (.int i)) : v = .int i := by
  rcases h with h | ⟨p, rfl, _, _, h⟩ <;> cases h
  rfl
theorem Bp.str {x : Str} (h : Bp w O H v (.str x)) : v = .str x ∧ PyData.strOk x = true := by
  rcases h with h | ⟨p, rfl, _, _, h⟩ <;> cases h
  exact ⟨rfl, by assumption⟩
theorem Bp.bool {b : Bool} (h : Bp w O H v (.bool b)) : v = .bl b := by
  rcases h with h | ⟨p, rfl, _, _, h⟩ <;> cases h
  rfl
theorem Bp.none (h : Bp w O H v .none) : v = .non := by
  rcases h with h | ⟨p, rfl, _, _, h⟩ <;> cases h
  rfl
end
def Post (O : Addr → Bool) (ps : Addr) (H : Hp) (st' : DSt) (H' : Hp) : Prop := Ext O ps H H' ∧ H' ps = some (.lst (st'.map V.int))
/-- there, and no tuple -/
def Al : Option HO → Prop
  | none => False
  | some (.tup _) => False
  | some _ => True
theorem Al.ne {o : Option HO} (h : Al o) : o ≠ none := by
  rintro rfl
  exact h
/-- the slots and the heap are as env and st tell -/
structure Rel (K : PySem.W.Frag) (w : Dr) (O0 : Addr → Bool) (H0 : Hp) (O : Addr → Bool) (σ : L2.St) (H : Hp) (env : Env) (st : DSt) : Prop where
  ext : Ext O0 w.ps H0 H
  sub : ∀ a, O0 a = true → O a = true
  alc0 : ∀ a, O0 a = true → H0 a ≠ none
  alc : ∀ a, O a = true → Al (H a)
  new : ∀ a, O a = true → O0 a = false → H0 a = none
  ops : O0 w.ps = true
  sts : H w.ps = some (.lst (st.map V.int))
  scr : SqL K (hid H O) w.sa (w.ns.map V.int)
  len : env.length = σ.length
  val : ∀ (i : Nat) (d : D), env[i]? = some (Slot.val d) → ∃ v, σ[i]? = some (some v) ∧ Rp w (hid H O) v d
  own : ∀ (i : Nat) (d : D), env[i]? = some (Slot.own d) → ∃ p, σ[i]? = some (some (.ref p)) ∧ O p = true ∧ O0 p = false ∧ OwnAt w O H p d
  inj : ∀ (i j : Nat) (p : Addr) (di dj : D), env[i]? = some (Slot.own di) → env[j]? = some (Slot.own dj) → σ[i]? = some (some (.ref p)) → σ[j]? = some (some (.ref p)) → i = j
section
variable {K : PySem.W.Frag} {w : Dr} {O0 O : Addr → Bool} {H0 H H' : Hp} {σ : L2.St} {env : Env} {st st' : DSt}
theorem Rel.psne (R : Rel K w O0 H0 O σ H env st) {p : Addr} (h : O0 p = false) : p ≠ w.ps := fun e => by
  rw [e, R.ops] at h; cases h
theorem Rel.post (R : Rel K w O0 H0 O σ H env st) (q : Post O w.ps H st' H') : Rel K w O0 H0 O σ H' env st' := by
  obtain ⟨e, hs⟩ := q
  refine ⟨⟨fun b o h n x => e.own b o (R.sub b h) n (R.ext.own b o h n x), fun b o h x => ?_⟩, R.sub, R.alc0, fun a h => ?_, R.new, R.ops, hs, e.le.sqL R.scr, R.len, fun i d h => ?_, fun i d h => ?_, R.inj⟩
  · cases z : O b with
    | false =>
      obtain ⟨o1, e1, k1⟩ := R.ext.rd b o h x
      obtain ⟨o2, e2, k2⟩ := e.rd b o1 z e1
      exact ⟨o2, e2, k1.trans k2⟩
    | true =>
      have n := R.new b z h
      rw [n] at x; cases x
  · by_cases hp : a = w.ps
    · rw [hp, hs]; exact trivial
    · cases x : H a with
      | none => exact absurd x (R.alc a h).ne
      | some o =>
        rw [e.own a o h hp x]
        have := R.alc a h
        rw [x] at this
        exact this
  · obtain ⟨v, e1, e2⟩ := R.val i d h
    exact ⟨v, e1, e2.mono e.le⟩
  · obtain ⟨p, e1, e2, e3, e4⟩ := R.own i d h
    exact ⟨p, e1, e2, e3, e4.ext e e2 (R.psne e3)⟩
theorem Post.trans {ps : Addr} {st1 st2 : DSt} {H1 H2 : Hp} (a : Post O ps H st1 H1) (b : Post O ps H1 st2 H2) : Post O ps H st2 H2 := ⟨a.1.trans b.1, b.2⟩
theorem Rel.here (R : Rel K w O0 H0 O σ H env st) : Post O w.ps H st H := ⟨Ext.refl, R.sts⟩
theorem Rel.free (R : Rel K w O0 H0 O σ H env st) {p : Addr} (h : H p = none) : O p = false := by
  cases z : O p with
  | false => rfl
  | true => exact absurd h (R.alc p z).ne
theorem Rel.post_new (R : Rel K w O0 H0 O σ H env st) {p : Addr} {o : HO} (h : H p = none) : Post O w.ps H st (upd H p o) :=
  ⟨Ext.new h, by rw [upd_ne (ne_of_none R.sts h)]; exact R.sts⟩
theorem Rel.getV (R : Rel K w O0 H0 O σ H env st) {i : Nat} {d : D} (h : getV env i = some d) : ∃ v, σ[i]? = some (some v) ∧ Rp w (hid H O) v d := by
  unfold TK.getV at h
  split at h
  · rename_i e
    cases h
    exact R.val i d e
  · cases h
theorem Rel.getB (R : Rel K w O0 H0 O σ H env st) {i : Nat} {d : D} (h : getB env i = some d) : ∃ v, σ[i]? = some (some v) ∧ Bp w O H v d := by
  unfold TK.getB at h
  split at h
  · rename_i e
    cases h
    obtain ⟨v, e1, e2⟩ := R.val i d e
    exact ⟨v, e1, .inl e2⟩
  · rename_i e
    cases h
    obtain ⟨p, e1, e2, e3, e4⟩ := R.own i d e
    exact ⟨_, e1, .inr ⟨p, rfl, e2, R.psne e3, e4⟩⟩
  · cases h
/-- a new tuple, list that is read -/
theorem rp_newT (R : Rel K w O0 H0 O σ H env st) {p : Addr} {xs : List V} {ds : List D} (h : H p = none) (q : RpAll w (hid H O) xs ds) : Rp w (hid (upd H p (.tup xs)) O) (.ref p) (.tuple ds) :=
  .tup (by rw [hid_of (R.free h)]; exact upd_same) (q.mono (Ext.new (ps := w.ps) h).le)
theorem rp_newL (R : Rel K w O0 H0 O σ H env st) {p : Addr} {xs : List V} {ds : List D} (h : H p = none) (q : RpAll w (hid H O) xs ds) : Rp w (hid (upd H p (.lst xs)) O) (.ref p) (.list ds) :=
  .lst (by rw [hid_of (R.free h)]; exact upd_same) (q.mono (Ext.new (ps := w.ps) h).le)
end
end TK
namespace TK
open PySem PySem.Spec PyProof.Rows L2
/-- how a run ends: Q of what it gives, or the wish about an exception of the class named -/
def Out {α : Type} (mg : Str → Option Value) (E : XK) (O : Addr → Bool) (ps : Addr) (H : Hp) (r : Except Str α) (st' : DSt) (Q : α → Hp → Prop) : Prop :=
  match r with
  | .ok a => ∀ H', Post O ps H st' H' → Q a H'
  | .error c => ∀ A H', mg c = some (.ref A) → Post O ps H st' H' → E (.ref A) none H'
theorem Out.later {α : Type} {mg : Str → Option Value} {E : XK} {O : Addr → Bool} {ps : Addr} {H H1 : Hp} {r : Except Str α} {st1 st' : DSt} {Q : α → Hp → Prop} (p : Post O ps H st1 H1) (h : Out mg E O ps H r st' Q) : Out mg E O ps H1 r st' Q := by
  cases r with
  | ok a => exact fun H' q => h H' (p.trans q)
  | error c => exact fun A H' m q => h A H' m (p.trans q)
section
variable (K : PySem.W.Frag) (mg : Str → Option Value) (E : XK) (Γ : List FnSem)
/-- readings: of a value, of a borrowed value, of a list of values, of a test -/
def rd (T : TK.E) : TE := fun σ H Q => ∃ w O0 H0 O env st r st', Rel K w O0 H0 O σ H env st ∧ ev Γ env T st = some (r, st') ∧ Out mg E O w.ps H r st' fun d H' => ∀ v, Rp w (hid H' O) v d → Q v H'
def rdB (T : TK.E) : TE := fun σ H Q => ∃ w O0 H0 O env st r st', Rel K w O0 H0 O σ H env st ∧ orB env T (ev Γ env T) st = some (r, st') ∧ Out mg E O w.ps H r st' fun d H' => ∀ v, Bp w O H' v d → Q v H'
def rdA (T : List TK.E) : TA := fun σ H Q => ∃ w O0 H0 O env st r st', Rel K w O0 H0 O σ H env st ∧ evs Γ env T st = some (r, st') ∧ Out mg E O w.ps H r st' fun ds H' => ∀ vs, RpAll w (hid H' O) vs ds → Q vs H'
def rdT (T : TK.E) : TT := fun σ H Q => ∃ w O0 H0 O env st r st', Rel K w O0 H0 O σ H env st ∧ (do let d ← orB env T (ev Γ env T); tru d) st = some (r, st') ∧ Out mg E O w.ps H r st' fun b H' => Q b H'
end
theorem _root_.L2.PE.weak {X : Cx} {e : Expr} {t t' : TE} (h : PE X e t) (i : ∀ σ H Q, t' σ H Q → t σ H Q) : PE X e t' := ⟨fun pins s σ H Q I q => h.run pins s σ H Q I (i σ H Q q)⟩
theorem _root_.L2.PT.weak {X : Cx} {e : Expr} {t t' : TT} (h : PT X e t) (i : ∀ σ H Q, t' σ H Q → t σ H Q) : PT X e t' := ⟨fun pins s σ H Q I q => h.run pins s σ H Q I (i σ H Q q)⟩
theorem _root_.L2.PA.weak {X : Cx} {e : List Expr} {t t' : TA} (h : PA X e t) (i : ∀ σ H Q, t' σ H Q → t σ H Q) : PA X e t' := ⟨fun po pins s σ H Q I q => h.run po pins s σ H Q I (i σ H Q q)⟩
theorem _root_.L2.PS.weak {X : Cx} {e : Stmt} {t t' : TS} (h : PS X e t) (i : ∀ D σ H, t' D σ H → t D σ H) : PS X e t' := ⟨fun pins s σ H D I q => h.run pins s σ H D I (i D σ H q)⟩
theorem _root_.L2.PSs.weak {X : Cx} {e : List Stmt} {t t' : TS} (h : PSs X e t) (i : ∀ D σ H, t' D σ H → t D σ H) : PSs X e t' := ⟨fun pins s σ H D I q => h.run pins s σ H D I (i D σ H q)⟩
theorem _root_.L2.PE.or {X : Cx} {e : Expr} {t t' : TE} (h : PE X e t) (h' : PE X e t') : PE X e (fun σ H Q => t σ H Q ∨ t' σ H Q) := ⟨fun pins s σ H Q I q => q.elim (h.run pins s σ H Q I) (h'.run pins s σ H Q I)⟩
section
variable {K : PySem.W.Frag} {mg : Str → Option Value} {E : XK} {Γ : List FnSem} {w : Dr} {O0 O : Addr → Bool} {H0 H : Hp} {σ : L2.St} {env : Env} {st st2 : DSt}
/-- a part first, then the rest -/
theorem rd_bind {α : Type} {T : TK.E} {f : D → M α} {r : Except Str α} {Qo : α → Hp → Prop} {Q : VK} (R : Rel K w O0 H0 O σ H env st) (h : (ev Γ env T >>= f) st = some (r, st2)) (o : Out mg E O w.ps H r st2 Qo)
    (k : ∀ d st1 v H1, Rel K w O0 H0 O σ H1 env st1 → Post O w.ps H st1 H1 → Rp w (hid H1 O) v d → f d st1 = some (r, st2) → Out mg E O w.ps H1 r st2 Qo → Q v H1) : rd K mg E Γ T σ H Q := by
  rcases bind_inv h with ⟨c, h1, rfl⟩ | ⟨d, st1, h1, h2⟩
  · exact ⟨w, O0, H0, O, env, st, _, _, R, h1, o⟩
  · exact ⟨w, O0, H0, O, env, st, _, _, R, h1, fun H1 p v q => k d st1 v H1 (R.post p) p q h2 (o.later p)⟩
theorem rdB_bind {α : Type} {T : TK.E} {f : D → M α} {r : Except Str α} {Qo : α → Hp → Prop} {Q : VK} (R : Rel K w O0 H0 O σ H env st) (h : (orB env T (ev Γ env T) >>= f) st = some (r, st2)) (o : Out mg E O w.ps H r st2 Qo)
    (k : ∀ d st1 v H1, Rel K w O0 H0 O σ H1 env st1 → Post O w.ps H st1 H1 → Bp w O H1 v d → f d st1 = some (r, st2) → Out mg E O w.ps H1 r st2 Qo → Q v H1) : rdB K mg E Γ T σ H Q := by
  rcases bind_inv h with ⟨c, h1, rfl⟩ | ⟨d, st1, h1, h2⟩
  · exact ⟨w, O0, H0, O, env, st, _, _, R, h1, o⟩
  · exact ⟨w, O0, H0, O, env, st, _, _, R, h1, fun H1 p v q => k d st1 v H1 (R.post p) p q h2 (o.later p)⟩
theorem rdA_bind {α : Type} {T : List TK.E} {f : List D → M α} {r : Except Str α} {Qo : α → Hp → Prop} {Q : List V → Hp → Prop} (R : Rel K w O0 H0 O σ H env st) (h : (evs Γ env T >>= f) st = some (r, st2)) (o : Out mg E O w.ps H r st2 Qo)
    (k : ∀ d st1 v H1, Rel K w O0 H0 O σ H1 env st1 → Post O w.ps H st1 H1 → RpAll w (hid H1 O) v d → f d st1 = some (r, st2) → Out mg E O w.ps H1 r st2 Qo → Q v H1) : rdA K mg E Γ T σ H Q := by
  rcases bind_inv h with ⟨c, h1, rfl⟩ | ⟨d, st1, h1, h2⟩
  · exact ⟨w, O0, H0, O, env, st, _, _, R, h1, o⟩
  · exact ⟨w, O0, H0, O, env, st, _, _, R, h1, fun H1 p v q => k d st1 v H1 (R.post p) p q h2 (o.later p)⟩
theorem rdT_bind {α : Type} {T : TK.E} {f : Bool → M α} {r : Except Str α} {Qo : α → Hp → Prop} {Q : Bool → Hp → Prop} (R : Rel K w O0 H0 O σ H env st) (h : ((do let d ← orB env T (ev Γ env T); tru d) >>= f) st = some (r, st2)) (o : Out mg E O w.ps H r st2 Qo)
    (k : ∀ b st1 H1, Rel K w O0 H0 O σ H1 env st1 → Post O w.ps H st1 H1 → f b st1 = some (r, st2) → Out mg E O w.ps H1 r st2 Qo → Q b H1) : rdT K mg E Γ T σ H Q := by
  rcases bind_inv h with ⟨c, h1, rfl⟩ | ⟨d, st1, h1, h2⟩
  · exact ⟨w, O0, H0, O, env, st, _, _, R, h1, o⟩
  · exact ⟨w, O0, H0, O, env, st, _, _, R, h1, fun H1 p => k d st1 H1 (R.post p) p h2 (o.later p)⟩
theorem liftO_inv {α : Type} {x : Option α} {r : Except Str α} {st st' : DSt} (h : liftO x st = some (r, st')) : ∃ a, x = some a ∧ r = .ok a ∧ st' = st := by
  cases x with
  | none => cases h
  | some a => cases h; exact ⟨a, rfl, rfl, rfl⟩
theorem pure_inv {α : Type} {a : α} {r : Except Str α} {st st' : DSt} (h : (pure a : M α) st = some (r, st')) : r = .ok a ∧ st' = st := by
  cases h; exact ⟨rfl, rfl⟩
end
section
variable {X : Cx} {E : XK} {Γ : List FnSem} {k : Nat}
theorem orB_notvar {env : Env} {T : TK.E} {r : M D} (h : ∀ i, T ≠ .var i) : orB env T r = r := by
  cases T <;> first | rfl | exact absurd rfl (h _)
/-- a name -/
theorem s_var {i : Nat} {x : Str} {pos : Pos} (hN : X.N[i]? = some x) (hv : Vis X.env.scope x) (hd : (x == ("__debug__" : Str)) = false) (hcd : (x == ("__classdict__" : Str)) = false) : PE X (.Name x pos) (rd X.K X.mg E Γ (.var i)) := by
  refine (pe_var hN hv hd hcd).weak fun σ H Q h => ?_
  obtain ⟨w, O0, H0, O, env, st, r, st', R, h, o⟩ := h
  obtain ⟨d, h1, rfl, rfl⟩ := liftO_inv (x := getV env i) h
  obtain ⟨v, e1, e2⟩ := R.getV h1
  exact ⟨v, e1, o H R.here v e2⟩
theorem s_varB {i : Nat} {x : Str} {pos : Pos} (hN : X.N[i]? = some x) (hv : Vis X.env.scope x) (hd : (x == ("__debug__" : Str)) = false) (hcd : (x == ("__classdict__" : Str)) = false) : PE X (.Name x pos) (rdB X.K X.mg E Γ (.var i)) := by
  refine (pe_var hN hv hd hcd).weak fun σ H Q h => ?_
  obtain ⟨w, O0, H0, O, env, st, r, st', R, h, o⟩ := h
  obtain ⟨d, h1, rfl, rfl⟩ := liftO_inv (x := getB env i) h
  obtain ⟨v, e1, e2⟩ := R.getB h1
  exact ⟨v, e1, o H R.here v e2⟩
/-- anything but a name is borrowed as it is -/
theorem s_B {e : Expr} {T : TK.E} (hT : ∀ i, T ≠ .var i) (h : PE X e (rd X.K X.mg E Γ T)) : PE X e (rdB X.K X.mg E Γ T) := by
  refine h.weak fun σ H Q q => ?_
  obtain ⟨w, O0, H0, O, env, st, r, st', R, q, o⟩ := q
  rw [orB_notvar hT] at q
  refine ⟨w, O0, H0, O, env, st, r, st', R, q, ?_⟩
  cases r with
  | ok d => exact fun H' p v z => o H' p v (.inl z)
  | error c => exact o
/-- constants -/
def leaf : Const → Option D
  | .none => some .none
  | .bool b => some (.bool b)
  | .int i => some (.int i)
  | .str x => if PyData.strOk x then some (.str x) else none
  | _ => none
theorem s_con {c : Const} {j : Nat} {pos : Pos} {d : D} (h : leaf c = some d) : PE X (.Constant c j pos) (rd X.K X.mg E Γ (.con d)) := by
  have fin : ∀ {v : V}, (∀ w G, Rp w G v d) → ∀ σ H Q, rd X.K X.mg E Γ (.con d) σ H Q → tC v σ H Q := fun {v} hv σ H Q q => by
    obtain ⟨w, O0, H0, O, env, st, r, st', R, q, o⟩ := q
    obtain ⟨rfl, rfl⟩ := pure_inv (a := d) q
    exact o H R.here v (hv _ _)
  cases c with
  | none => cases h; exact pe_non.weak (fin fun _ _ => .non)
  | bool b => cases h; exact pe_bl.weak (fin fun _ _ => .bl b)
  | int i => cases h; exact pe_int.weak (fin fun _ _ => .int i)
  | str x =>
    simp only [leaf] at h
    split at h
    · cases h; exact pe_str.weak (fin fun _ _ => .str x (by assumption))
    · cases h
  | _ => cases h
/-- arguments -/
theorem s_nil : PA X [] (rdA X.K X.mg E Γ []) := by
  refine pa_nil.weak fun σ H Q q => ?_
  obtain ⟨w, O0, H0, O, env, st, r, st', R, q, o⟩ := q
  obtain ⟨rfl, rfl⟩ := pure_inv (a := ([] : List D)) q
  exact o H R.here [] .nil
theorem s_cons {e : Expr} {es : List Expr} {T : TK.E} {Ts : List TK.E} (h : PE X e (rd X.K X.mg E Γ T)) (hs : PA X es (rdA X.K X.mg E Γ Ts)) (hst : starEach (e :: es) X.env = (false, eval e X.env) :: starEach es X.env) : PA X (e :: es) (rdA X.K X.mg E Γ (T :: Ts)) := by
  refine (pa_cons h hs hst).weak fun σ H Q q => ?_
  obtain ⟨w, O0, H0, O, env, st, r, st', R, q, o⟩ := q
  refine rd_bind R (f := fun d => evs Γ env Ts >>= fun ds => pure (d :: ds)) q o fun d st1 v H1 R1 p1 q1 h1 o1 => ?_
  refine rdA_bind R1 h1 o1 fun ds st2 vs H2 R2 p2 q2 h2 o2 => ?_
  obtain ⟨rfl, rfl⟩ := pure_inv h2
  exact o2 H2 R2.here (v :: vs) (.cons (q1.mono p2.1.le) q2)
/-- displays -/
theorem s_tup {es : List Expr} {Ts : List TK.E} {j : Nat} {pos : Pos} (h : PA X es (rdA X.K X.mg E Γ Ts)) : PE X (.Tuple es j pos) (rd X.K X.mg E Γ (.tup Ts)) := by
  refine (pe_tup h).weak fun σ H Q q => ?_
  obtain ⟨w, O0, H0, O, env, st, r, st', R, q, o⟩ := q
  refine rdA_bind R (f := fun ds => if ds.length ≤ lim then pure (PyData.tuple ds) else fail) q o fun ds st1 vs H1 R1 p1 q1 h1 o1 => ?_
  split at h1
  · obtain ⟨rfl, rfl⟩ := pure_inv h1
    refine ⟨by rw [q1.length]; assumption, fun p hp => o1 _ (R1.post_new hp) _ (rp_newT R1 hp q1)⟩
  · cases h1
theorem s_lst {es : List Expr} {Ts : List TK.E} {pos : Pos} (h : PA X es (rdA X.K X.mg E Γ Ts)) : PE X (.List es pos) (rd X.K X.mg E Γ (.lst Ts)) := by
  refine (pe_lst h).weak fun σ H Q q => ?_
  obtain ⟨w, O0, H0, O, env, st, r, st', R, q, o⟩ := q
  refine rdA_bind R (f := fun ds => if ds.length ≤ lim then pure (PyData.list ds) else fail) q o fun ds st1 vs H1 R1 p1 q1 h1 o1 => ?_
  split at h1
  · obtain ⟨rfl, rfl⟩ := pure_inv h1
    refine ⟨by rw [q1.length]; assumption, fun p hp => o1 _ (R1.post_new hp) _ (rp_newL R1 hp q1)⟩
  · cases h1
/-- a binary operator of the machine does what app2 o tells -/
def OpOk (X : Cx) (f : Value → Value → Sem Value) (o : O2) : Prop :=
  ∃ r : R2, OpR X f r ∧ ∀ w O0 H0 O σ H env st v u d e x Q, Rel X.K w O0 H0 O σ H env st → Bp w O H v d → Bp w O H u e → app2 o d e = some x →
    (∀ v' H', Post O w.ps H st H' → Rp w (hid H' O) v' x → Q v' H') → r v u H Q
theorem OpOk.tOp {f : Value → Value → Sem Value} {o : O2} {A B : TK.E} {r : R2}
    (h : ∀ w O0 H0 O σ H env st v u d e x Q, Rel X.K w O0 H0 O σ H env st → Bp w O H v d → Bp w O H u e → app2 o d e = some x →
    (∀ v' H', Post O w.ps H st H' → Rp w (hid H' O) v' x → Q v' H') → r v u H Q) : ∀ σ H Q, rd X.K X.mg E Γ (.op2 o A B) σ H Q → L2.tOp r (rdB X.K X.mg E Γ A) (rdB X.K X.mg E Γ B) σ H Q := fun σ H Q q => by
  obtain ⟨w, O0, H0, O, env, st, rr, st', R, q, oo⟩ := q
  refine rdB_bind R (f := fun x => orB env B (ev Γ env B) >>= fun y => liftO (app2 o x y)) q oo fun d st1 v H1 R1 p1 q1 h1 o1 => ?_
  refine rdB_bind R1 h1 o1 fun e st2 u H2 R2 p2 q2 h2 o2 => ?_
  obtain ⟨x, h3, rfl, rfl⟩ := liftO_inv h2
  exact h w O0 H0 O σ H2 env _ v u d e x Q R2 (q1.ext p2.1) q2 h3 fun v' H' p z => o2 H' p v' z
theorem s_bin {op : Operator} {o : O2} {a b : Expr} {A B : TK.E} {pos : Pos} (h : OpOk X (binaryOp op) o) (ha : PE X a (rdB X.K X.mg E Γ A)) (hb : PE X b (rdB X.K X.mg E Γ B)) : PE X (.BinOp a op b pos) (rd X.K X.mg E Γ (.op2 o A B)) := by
  obtain ⟨r, h1, h2⟩ := h
  exact (pe_op h1 ha hb).weak (OpOk.tOp (f := binaryOp op) h2)
theorem s_cmp {op : CmpOp} {o : O2} {a b : Expr} {A B : TK.E} {pos : Pos} (h : OpOk X (compareOp op) o) (ha : PE X a (rdB X.K X.mg E Γ A)) (hb : PE X b (rdB X.K X.mg E Γ B)) (hm : behindInMarks op b = false) : PE X (.Compare a [op] [b] pos) (rd X.K X.mg E Γ (.op2 o A B)) := by
  obtain ⟨r, h1, h2⟩ := h
  exact (pe_cmpR h1 ha hb hm).weak (OpOk.tOp (f := compareOp op) h2)
end
end TK
namespace TK
open PySem PySem.Spec PyProof.Rows L2
section
variable {w : Dr} {G G' : Hp} {K : PySem.W.Frag}
mutual
theorem Rp.dp (le : Le G G') : ∀ {v : V} {d : D} {n : Nat}, Rp w G v d → dep n d = true → Dp K G' v d
  | _, _, _, .non, _ => .non
  | _, _, _, .bl b, _ => .bl b
  | _, _, _, .int i, _ => .int i
  | _, _, _, .str x _, _ => .str x
  | _, _, 0, .lst _ _, h => by simp [dep] at h
  | _, _, n + 1, .lst a b, h => .lst (SqL.of (le.lst a)) (RpAll.dp le b (by simpa [dep] using h))
  | _, _, 0, .tup _ _, h => by simp [dep] at h
  | _, _, n + 1, .tup a b, h => .tup (SqT.of (le.tup a)) (RpAll.dp le b (by simpa [dep] using h))
  | _, _, n, .dK _ _, h => by cases n <;> simp [dep] at h
  | _, _, n, .dT _ _, h => by cases n <;> simp [dep, mkD] at h
  | _, _, n, .tok, h => by cases n <;> simp [dep, tok] at h
  | _, _, n, .scr, h => by cases n <;> simp [dep, scr] at h
  | _, _, n, .opq _ _, h => by cases n <;> simp [dep, opq] at h
theorem RpAll.dp (le : Le G G') : ∀ {v : List V} {d : List D} {n : Nat}, RpAll w G v d → (∀ x ∈ d, dep n x = true) → DpAll K G' v d
  | _, _, _, .nil, _ => .nil
  | _, _, _, .cons a b, h => .cons (Rp.dp le a (h _ List.mem_cons_self)) (RpAll.dp le b fun x hx => h x (List.mem_cons_of_mem _ hx))
end
mutual
theorem Rp.lay : ∀ {v : V} {d : D} {n : Nat}, Rp w G v d → dep n d = true → d.canLay0 = true
  | _, _, _, .non, _ => by simp only [PyData.canLay0]
  | _, _, _, .bl b, _ => by simp only [PyData.canLay0]
  | _, _, _, .int i, _ => by simp only [PyData.canLay0]
  | _, _, _, .str x h, _ => by simpa only [PyData.canLay0] using h
  | _, _, 0, .lst _ _, h => by simp [dep] at h
  | _, _, n + 1, .lst a b, h => by
    simp only [PyData.canLay0]
    exact RpAll.lay b (by simpa [dep] using h)
  | _, _, 0, .tup _ _, h => by simp [dep] at h
  | _, _, n + 1, .tup a b, h => by
    simp only [PyData.canLay0]
    exact RpAll.lay b (by simpa [dep] using h)
  | _, _, n, .dK _ _, h => by cases n <;> simp [dep] at h
  | _, _, n, .dT _ _, h => by cases n <;> simp [dep, mkD] at h
  | _, _, n, .tok, h => by cases n <;> simp [dep, tok] at h
  | _, _, n, .scr, h => by cases n <;> simp [dep, scr] at h
  | _, _, n, .opq _ _, h => by cases n <;> simp [dep, opq] at h
theorem RpAll.lay : ∀ {v : List V} {d : List D} {n : Nat}, RpAll w G v d → (∀ x ∈ d, dep n x = true) → PyData.canLayAll0 d = true
  | _, _, _, .nil, _ => by simp only [PyData.canLayAll0]
  | _, _, _, .cons a b, h => by
    simp only [PyData.canLayAll0, Bool.and_eq_true]
    exact ⟨Rp.lay a (h _ List.mem_cons_self), RpAll.lay b fun x hx => h x (List.mem_cons_of_mem _ hx)⟩
end
theorem depthAll_le {n : Nat} : ∀ {l : List D}, (∀ x ∈ l, x.depth ≤ n) → PyData.depthAll l ≤ n
  | [], _ => by simp [PyData.depthAll]
  | x :: xs, h => by
    simp only [PyData.depthAll]
    have h1 := h x List.mem_cons_self
    have h2 := depthAll_le (l := xs) fun y hy => h y (List.mem_cons_of_mem _ hy)
    omega
theorem dep_depth : ∀ {n : Nat} {d : D}, dep n d = true → d.depth ≤ n
  | n, .none, _ => by simp [PyData.depth]
  | n, .bool _, _ => by simp [PyData.depth]
  | n, .int _, _ => by simp [PyData.depth]
  | n, .str _, _ => by simp [PyData.depth]
  | 0, .list _, h => by simp [dep] at h
  | n + 1, .list l, h => by
    simp only [PyData.depth]
    have := depthAll_le (n := n) (l := l) fun x hx => dep_depth ((by simpa [dep] using h : ∀ x ∈ l, dep n x = true) x hx)
    omega
  | 0, .tuple _, h => by simp [dep] at h
  | n + 1, .tuple l, h => by
    simp only [PyData.depth]
    have := depthAll_le (n := n) (l := l) fun x hx => dep_depth ((by simpa [dep] using h : ∀ x ∈ l, dep n x = true) x hx)
    omega
  | n, .dict _, h => by cases n <;> simp [dep] at h
theorem Bp.dp {O : Addr → Bool} {H : Hp} {v : V} {d : D} {n : Nat} (h : Bp w O H v d) (hd : dep n d = true) : Dp K H v d := by
  rcases h with h | ⟨p, rfl, _, _, h⟩
  · exact h.dp hid_le hd
  · cases h with
    | lst a b =>
      cases n with
      | zero => simp [dep] at hd
      | succ n => exact .lst (SqL.of a) (b.dp hid_le (by simpa [dep] using hd))
    | dK a b => cases n <;> simp [dep] at hd
    | dT a b => cases n <;> simp [dep, mkD] at hd
theorem Bp.lay {O : Addr → Bool} {H : Hp} {v : V} {d : D} {n : Nat} (h : Bp w O H v d) (hd : dep n d = true) : d.canLay0 = true := by
  rcases h with h | ⟨p, rfl, _, _, h⟩
  · exact h.lay hd
  · cases h with
    | lst a b =>
      cases n with
      | zero => simp [dep] at hd
      | succ n =>
        simp only [PyData.canLay0]
        exact b.lay (by simpa [dep] using hd)
    | dK a b => cases n <;> simp [dep] at hd
    | dT a b => cases n <;> simp [dep, mkD] at hd
theorem shaped_of {d : D} {n : Nat} (h : d.canLay0 = true) (hd : dep n d = true) (hn : n ≤ 64) : SeqAt.shaped d = true := by
  unfold SeqAt.shaped
  rw [h, Bool.true_and]
  exact decide_eq_true (Nat.le_trans (dep_depth hd) hn)
end
theorem RpAll.rep {w : Dr} {G : Hp} {xs : List V} {ds : List D} (h : RpAll w G xs ds) : ∀ m : Nat, RpAll w G (List.replicate m xs).flatten (List.replicate m ds).flatten
  | 0 => .nil
  | m + 1 => by
    rw [List.replicate_succ, List.replicate_succ, List.flatten_cons, List.flatten_cons]
    exact h.append (h.rep m)
theorem strOk_append {a b : Str} (ha : PyData.strOk a = true) (hb : PyData.strOk b = true) : PyData.strOk (a ++ b) = true := by
  unfold PyData.strOk at *
  show (a.cps ++ b.cps).all _ = true
  rw [Array.all_append, ha, hb]
  rfl
section
variable {X : Cx} {k : Nat}
/-- several machine rules, one operator -/
theorem op_addBI : OpR X (binaryOp .Add) (fun x y H Q => ∃ (b : Bool) (i : Int), x = .bl b ∧ y = .int i ∧ Q (.int ((if b = true then (1 : Int) else 0) + i)) H) := by
  intro pins s σ H x y v u Q I rx ry h
  obtain ⟨b, i, rfl, rfl, q⟩ := h
  cases (show v = Value.bool b from rx)
  obtain ⟨t, rfl⟩ := ry
  exact PySem.IntBool.add_bool_int ⟨.int _, H, I.tok _, ⟨_, rfl⟩, q⟩
theorem ok_add : OpOk X (binaryOp .Add) .add := by
  refine ⟨_, ((op_add.or op_addBI).or op_add_str).or (op_cat.or op_catA), fun w O0 H0 O σ H env st v u d e x Q R bv bu ha q => ?_⟩
  cases d with
  | int i =>
    cases e with
    | int j =>
      cases ha
      obtain rfl := bv.int
      obtain rfl := bu.int
      exact .inl (.inl (.inl ⟨i, j, rfl, rfl, q _ H R.here (.int _)⟩))
    | _ => cases ha
  | bool b =>
    cases e with
    | int j =>
      cases ha
      obtain rfl := bv.bool
      obtain rfl := bu.int
      exact .inl (.inl (.inr ⟨b, j, rfl, rfl, q _ H R.here (.int _)⟩))
    | _ => cases ha
  | str a =>
    cases e with
    | str b =>
      simp only [app2] at ha
      split at ha
      · cases ha
        obtain ⟨rfl, h1⟩ := bv.str
        obtain ⟨rfl, h2⟩ := bu.str
        exact .inl (.inr ⟨a, b, rfl, rfl, by assumption, q _ H R.here (.str _ (strOk_append h1 h2))⟩)
      · cases ha
    | _ => cases ha
  | list a =>
    cases e with
    | list b =>
      simp only [app2] at ha
      split at ha
      · cases ha
        obtain ⟨p, xs, rfl, h1, r1⟩ := bv.list
        obtain ⟨p', ys, rfl, h2, r2⟩ := bu.list
        exact .inr (.inl ⟨p, p', xs, ys, rfl, rfl, h1, h2, by rw [r1.length, r2.length]; assumption, fun z hz => q _ _ (R.post_new hz) (rp_newL R hz (r1.append r2))⟩)
      · cases ha
    | _ => cases ha
  | tuple a =>
    cases e with
    | tuple b =>
      simp only [app2] at ha
      split at ha
      · cases ha
        obtain ⟨p, xs, rfl, h1, r1⟩ := bv.tuple
        obtain ⟨p', ys, rfl, h2, r2⟩ := bu.tuple
        refine .inr (.inr ⟨p, p', xs, ys, rfl, rfl, SqT.of h1, SqT.of h2, by rw [r1.length, r2.length]; assumption, fun e => ?_, fun _ e => ?_, fun _ _ z hz => q _ _ (R.post_new hz) (rp_newT R hz (r1.append r2))⟩)
        · subst e
          cases r1
          exact q _ H R.here bu.tupleR
        · subst e
          cases r2
          have := bv.tupleR
          rw [List.append_nil] at q
          exact q _ H R.here this
      · cases ha
    | _ => cases ha
  | _ => cases e <;> cases ha
theorem ok_mod : OpOk X (binaryOp .Mod) .mod := by
  refine ⟨_, op_mod, fun w O0 H0 O σ H env st v u d e x Q R bv bu ha q => ?_⟩
  cases d with
  | int i =>
    cases e with
    | int j =>
      simp only [app2] at ha
      split at ha
      · cases ha
        obtain rfl := bv.int
        obtain rfl := bu.int
        exact ⟨i, j, rfl, rfl, by assumption, q _ H R.here (.int _)⟩
      · cases ha
    | _ => cases ha
  | _ => cases e <;> cases ha
theorem ok_fdiv : OpOk X (binaryOp .FloorDiv) .fdiv := by
  refine ⟨_, op_fdiv, fun w O0 H0 O σ H env st v u d e x Q R bv bu ha q => ?_⟩
  cases d with
  | int i =>
    cases e with
    | int j =>
      simp only [app2] at ha
      split at ha
      · cases ha
        obtain rfl := bv.int
        obtain rfl := bu.int
        exact ⟨i, j, rfl, rfl, by assumption, q _ H R.here (.int _)⟩
      · cases ha
    | _ => cases ha
  | _ => cases e <;> cases ha
theorem natAbs_63 {j : Int} (h : j.natAbs < 2 ^ 63) : -(2 ^ 64) < j ∧ j < 2 ^ 64 := by omega
theorem ok_mul : OpOk X (binaryOp .Mult) .mul := by
  refine ⟨_, (op_mul.or op_rep).or op_repT, fun w O0 H0 O σ H env st v u d e x Q R bv bu ha q => ?_⟩
  cases d with
  | int i =>
    cases e with
    | int j =>
      simp only [app2] at ha
      split at ha
      · cases ha
        obtain rfl := bv.int
        obtain rfl := bu.int
        exact .inl <| .inl ⟨i, j, rfl, rfl, .inr (natAbs_63 (by assumption)), q _ H R.here (.int _)⟩
      · cases ha
    | _ => cases ha
  | list a =>
    cases e with
    | int j =>
      simp only [app2] at ha
      split at ha
      · rename_i hc
        cases ha
        obtain ⟨p, xs, rfl, h1, r1⟩ := bv.list
        obtain rfl := bu.int
        refine .inl <| .inr ⟨p, j, xs, rfl, rfl, h1, by omega, by omega, by rw [r1.length]; exact hc.1, fun z hz => q _ _ (R.post_new hz) (rp_newL R hz ?_)⟩
        exact r1.rep _
      · cases ha
    | _ => cases ha
  | tuple a =>
    cases e with
    | int j =>
      simp only [app2] at ha
      split at ha
      · rename_i hc
        cases ha
        obtain ⟨p, xs, rfl, h1, r1⟩ := bv.tuple
        obtain rfl := bu.int
        have hl := r1.length
        refine .inr ⟨p, j, xs, rfl, rfl, SqT.of h1, fun z => ?_, hc.1, hc.2.1, by omega, fun z hz => q _ _ (R.post_new hz) (rp_newT R hz ?_)⟩
        · rw [z] at hl; simp at hl; omega
        · exact r1.rep _
      · cases ha
    | _ => cases ha
  | _ => cases e <;> cases ha
theorem eqD_some {d e : D} {b : Bool} (h : eqD d e = some b) : dep 60 d = true ∧ dep 60 e = true ∧ b = PyData.eqv d e := by
  unfold eqD at h
  split at h
  · rename_i hc
    rw [Bool.and_eq_true] at hc
    cases h
    exact ⟨hc.1, hc.2, rfl⟩
  · cases h
theorem ok_eq (hr : Room k X.A) : OpOk X (compareOp .Eq) .eq := by
  refine ⟨_, op_eqD hr.units, fun w O0 H0 O σ H env st v u d e x Q R bv bu ha q => ?_⟩
  simp only [app2, Option.map_eq_some_iff] at ha
  obtain ⟨b, h, rfl⟩ := ha
  obtain ⟨h1, h2, rfl⟩ := eqD_some h
  exact ⟨d, e, bv.dp h1, bu.dp h2, shaped_of (bv.lay h1) h1 (by decide), shaped_of (bu.lay h2) h2 (by decide), q _ H R.here (.bl _)⟩
theorem ok_ne (hr : Room k X.A) : OpOk X (compareOp .NotEq) .ne := by
  refine ⟨_, op_neD hr.units, fun w O0 H0 O σ H env st v u d e x Q R bv bu ha q => ?_⟩
  simp only [app2, Option.map_eq_some_iff] at ha
  obtain ⟨b, h, rfl⟩ := ha
  obtain ⟨h1, h2, rfl⟩ := eqD_some h
  exact ⟨d, e, bv.dp h1, bu.dp h2, shaped_of (bv.lay h1) h1 (by decide), shaped_of (bu.lay h2) h2 (by decide), q _ H R.here (.bl _)⟩
/-- < by data that are alike -/
def rLtD (K : PySem.W.Frag) : R2 := fun x y H Q => ∃ d e, Dp K H x d ∧ Dp K H y e ∧ PySem.W.alike d e = true ∧ d ≠ .none ∧ d.depth ≤ 64 ∧ Q (.bl (PySem.W.dataLt d e)) H
theorem op_ltD (hu : X.A.units + 64 < cLine) : OpR X (compareOp .Lt) (rLtD X.K) := by
  intro pins s σ H x y v u Q I rx ry h
  obtain ⟨d, e, hd, he, ha, hn, hz, q⟩ := h
  obtain ⟨as, r1⟩ := Dp.reads I d x v hd rx
  obtain ⟨bs, r2⟩ := Dp.reads I e y u he ry
  exact PySem.W.rcLt_alike d e X.A s v u as bs r1 r2 ha hn (by have : min d.depth e.depth ≤ d.depth := Nat.min_le_left _ _; omega) X.prog X.w X.xe _ ⟨.bl _, H, I, rfl, q⟩
theorem ltD_some {d e : D} {b : Bool} (h : ltD d e = some b) : PySem.W.alike d e = true ∧ d ≠ .none ∧ dep 30 d = true ∧ dep 30 e = true ∧ b = PySem.W.dataLt d e := by
  unfold ltD at h
  split at h
  · rename_i hc
    simp only [Bool.and_eq_true] at hc
    cases h
    exact ⟨hc.1.1.1, fun z => by rw [z] at hc; simp [notNone] at hc, hc.1.2, hc.2, rfl⟩
  · cases h
theorem ok_lt (hr : Room k X.A) : OpOk X (compareOp .Lt) .lt := by
  refine ⟨_, op_ltD hr.units, fun w O0 H0 O σ H env st v u d e x Q R bv bu ha q => ?_⟩
  simp only [app2, Option.map_eq_some_iff] at ha
  obtain ⟨b, h, rfl⟩ := ha
  obtain ⟨h1, h2, h3, h4, rfl⟩ := ltD_some h
  exact ⟨d, e, bv.dp h3, bu.dp h4, h1, h2, Nat.le_trans (dep_depth h3) (by decide), q _ H R.here (.bl _)⟩
theorem ok_le : OpOk X (compareOp .LtE) .le := by
  refine ⟨_, op_le.or op_le_str, fun w O0 H0 O σ H env st v u d e x Q R bv bu ha q => ?_⟩
  cases d with
  | int i =>
    cases e with
    | int j =>
      cases ha
      obtain rfl := bv.int
      obtain rfl := bu.int
      exact .inl ⟨i, j, rfl, rfl, q _ H R.here (.bl _)⟩
    | _ => cases ha
  | str a =>
    cases e with
    | str b =>
      cases ha
      obtain ⟨rfl, h1⟩ := bv.str
      obtain ⟨rfl, h2⟩ := bu.str
      exact .inr ⟨a, b, rfl, rfl, q _ H R.here (.bl _)⟩
    | _ => cases ha
  | _ => cases e <;> cases ha
end
end TK
namespace TK
open PySem PySem.Spec PyProof.Rows L2
theorem eqv_key (a b : Key) : PyData.eqv (keyD a) (keyD b) = decide (a = b) := by
  cases a with
  | inl i =>
    cases b with
    | inl j => rw [key_ll]; simp only [keyD, PyData.eqv]
    | inr y => rw [key_lr]; simp only [keyD, PyData.eqv]
  | inr x =>
    cases b with
    | inl j => rw [key_rl]; simp only [keyD, PyData.eqv]
    | inr y =>
      rw [key_rr]
      simp only [keyD, PyData.eqv]
      by_cases e : x = y
      · subst e; simp
      · simp [e]
theorem eqvAll_keys : ∀ (a b : List Key), PyData.eqvAll (a.map keyD) (b.map keyD) = decide (a = b)
  | [], [] => by simp [PyData.eqvAll]
  | [], b :: bs => by simp [PyData.eqvAll]
  | a :: as, [] => by simp [PyData.eqvAll]
  | a :: as, b :: bs => by
    simp only [List.map_cons, PyData.eqvAll, eqv_key, eqvAll_keys as bs]
    by_cases e : a = b
    · subst e; simp
    · simp [e]
theorem eqv_keyT (a b : List Key) : PyData.eqv (.tuple (a.map keyD)) (.tuple (b.map keyD)) = decide (a = b) := by
  simp only [PyData.eqv]
  exact eqvAll_keys a b
section
variable {w : Dr} {G : Hp}
theorem RpKV.get (k : Key) : ∀ {kvs : List (Key × V)} {l : List (D × D)}, RpKV w G kvs l → (getD l (keyD k) = none ∧ valV kvs k = none) ∨ ∃ v d, getD l (keyD k) = some d ∧ valV kvs k = some v ∧ Rp w G v d
  | _, _, .nil => .inl ⟨rfl, rfl⟩
  | _, _, .cons (k := k') (v := v) (d := d) hs hv hr => by
    by_cases e : k' = k
    · refine .inr ⟨v, d, ?_, valV_pos e, hv⟩
      simp only [getD, eqv_key, e, decide_true, if_true]
    · rcases RpKV.get k hr with ⟨h1, h2⟩ | ⟨v', d', h1, h2, h3⟩
      · refine .inl ⟨?_, (valV_neg e).trans h2⟩
        simp only [getD, eqv_key, e, decide_false, Bool.false_eq_true, if_false]
        exact h1
      · refine .inr ⟨v', d', ?_, (valV_neg e).trans h2, h3⟩
        simp only [getD, eqv_key, e, decide_false, Bool.false_eq_true, if_false]
        exact h1
theorem RpKT.get (k : List Key) : ∀ {kvs : List (List Key × V)} {l : List (D × D)}, RpKT w G kvs l → (getD l (.tuple (k.map keyD)) = none ∧ valV kvs k = none) ∨ ∃ v d, getD l (.tuple (k.map keyD)) = some d ∧ valV kvs k = some v ∧ Rp w G v d
  | _, _, .nil => .inl ⟨rfl, rfl⟩
  | _, _, .cons (k := k') (v := v) (d := d) hs hv hr => by
    by_cases e : k' = k
    · refine .inr ⟨v, d, ?_, valV_pos e, hv⟩
      simp only [getD, eqv_keyT, e, decide_true, if_true]
    · rcases RpKT.get k hr with ⟨h1, h2⟩ | ⟨v', d', h1, h2, h3⟩
      · refine .inl ⟨?_, (valV_neg e).trans h2⟩
        simp only [getD, eqv_keyT, e, decide_false, Bool.false_eq_true, if_false]
        exact h1
      · refine .inr ⟨v', d', ?_, (valV_neg e).trans h2, h3⟩
        simp only [getD, eqv_keyT, e, decide_false, Bool.false_eq_true, if_false]
        exact h1
/-- the two kinds of dicts -/
inductive DkB (w : Dr) (O : Addr → Bool) (H : Hp) (a : Addr) : Bool → List (D × D) → Prop
  | k {kvs : List (Key × V)} {l : List (D × D)} : Rd H a (.dK kvs) → RpKV w (hid H O) kvs l → DkB w O H a false l
  | t {kvs : List (List Key × V)} {l : List (D × D)} : Rd H a (.dT kvs) → RpKT w (hid H O) kvs l → DkB w O H a true l
theorem rd_hid {H : Hp} {O : Addr → Bool} {a : Addr} {u : HO} (h : Rd (hid H O) a u) : Rd H a u := by
  rcases h with h | ⟨o, h⟩
  · exact .inl (hid_some h).2
  · exact .inr ⟨o, (hid_some h).2⟩
theorem RpKV.dictV : ∀ {kvs : List (Key × V)} {l : List (D × D)}, RpKV w G kvs l → TK.dictV (.dict l) = some (false, l)
  | _, _, .nil => rfl
  | _, _, .cons (k := k) _ _ _ => by cases k <;> rfl
theorem Bp.dict {O : Addr → Bool} {H : Hp} {v : V} {d : D} {t : Bool} {l : List (D × D)} (h : Bp w O H v d) (e : dictV d = some (t, l)) : ∃ a, v = .ref a ∧ DkB w O H a t l := by
  rcases h with h | ⟨p, rfl, _, _, h⟩
  · cases h with
    | dK a b =>
      rw [b.dictV] at e
      cases e
      exact ⟨_, rfl, .k (rd_hid a) b⟩
    | dT a b =>
      cases e
      exact ⟨_, rfl, .t (rd_hid a) b⟩
    | _ => cases e
  · cases h with
    | dK a b =>
      rw [b.dictV] at e
      cases e
      exact ⟨_, rfl, .k (.inl a) b⟩
    | dT a b =>
      cases e
      exact ⟨_, rfl, .t (.inl a) b⟩
    | _ => cases e
/-- a key as it stands -/
inductive KeyB (H : Hp) : Bool → V → D → Prop
  | k (k : Key) : keyS k = true → KeyB H false (kV k) (keyD k)
  | t {b : Addr} (ks : List Key) : ks.all keyS = true → H b = some (.tup (ks.map kV)) → KeyB H true (.ref b) (.tuple (ks.map keyD))
theorem RpAll.keys : ∀ {xs : List V} {ds : List D}, RpAll w G xs ds → (ds.all fun (x : PyData) => match x with | .int _ => true | .str _ => true | _ => false) = true → ∃ ks : List Key, xs = ks.map kV ∧ ds = ks.map keyD ∧ ks.all keyS = true
  | _, _, .nil, _ => ⟨[], rfl, rfl, rfl⟩
  | _, _, .cons (v := v) (d := d) a b, h => by
    rw [List.all_cons, Bool.and_eq_true] at h
    obtain ⟨ks, e1, e2, e3⟩ := RpAll.keys b h.2
    cases a with
    | int i => exact ⟨.inl i :: ks, by rw [e1]; rfl, by rw [e2]; rfl, by rw [List.all_cons, e3]; rfl⟩
    | str x hx => exact ⟨.inr x :: ks, by rw [e1]; rfl, by rw [e2]; rfl, by rw [List.all_cons, e3, Bool.and_true]; exact hx⟩
    | _ => cases h.1
theorem Bp.key {O : Addr → Bool} {H : Hp} {v : V} {d : D} {t : Bool} (h : Bp w O H v d) (hk : keyFor t d = true) : KeyB H t v d := by
  cases d with
  | int i =>
    cases t with
    | false => obtain rfl := h.int; exact .k (.inl i) rfl
    | true => cases hk
  | str x =>
    cases t with
    | false => obtain ⟨rfl, hx⟩ := h.str; exact .k (.inr x) hx
    | true => cases hk
  | tuple l =>
    cases t with
    | false => cases hk
    | true =>
      obtain ⟨a, xs, rfl, h1, r1⟩ := h.tuple
      obtain ⟨ks, e1, e2, e3⟩ := r1.keys hk
      subst e1 e2
      exact .t ks e3 h1
  | _ => cases t <;> cases hk
theorem DkB.get {O : Addr → Bool} {H : Hp} {a : Addr} {t : Bool} {l : List (D × D)} {v : V} {d : D} (h : DkB w O H a t l) (hk : KeyB H t v d) :
    ∃ o, DGet H a v o ∧ ((o = none ∧ getD l d = none) ∨ ∃ x y, o = some x ∧ getD l d = some y ∧ Rp w (hid H O) x y) := by
  cases h with
  | k h1 h2 =>
    cases hk with
    | k k hs =>
      rcases h2.get k with ⟨e1, e2⟩ | ⟨x, y, e1, e2, e3⟩
      · exact ⟨none, .inl ⟨_, k, h1, rfl, e2.symm⟩, .inl ⟨rfl, e1⟩⟩
      · exact ⟨some x, .inl ⟨_, k, h1, rfl, e2.symm⟩, .inr ⟨x, y, rfl, e1, e3⟩⟩
  | t h1 h2 =>
    cases hk with
    | t ks hs hb =>
      rcases h2.get ks with ⟨e1, e2⟩ | ⟨x, y, e1, e2, e3⟩
      · exact ⟨none, .inr ⟨_, ks, _, h1, rfl, hb, e2.symm⟩, .inl ⟨rfl, e1⟩⟩
      · exact ⟨some x, .inr ⟨_, ks, _, h1, rfl, hb, e2.symm⟩, .inr ⟨x, y, rfl, e1, e3⟩⟩
/-- a dict asked for a key -/
theorem look_of {O : Addr → Bool} {H : Hp} {v u : V} {d e : D} {o : Option D} (bv : Bp w O H v d) (bu : Bp w O H u e) (h : lookD d e = some o) :
    ∃ a o', v = .ref a ∧ DGet H a u o' ∧ ((o' = none ∧ o = none) ∨ ∃ x y, o' = some x ∧ o = some y ∧ Rp w (hid H O) x y) := by
  unfold lookD at h
  rw [Option.bind_eq_some_iff] at h
  obtain ⟨⟨t, l⟩, h1, h2⟩ := h
  split at h2
  · rename_i hk
    cases h2
    obtain ⟨a, rfl, hd⟩ := bv.dict h1
    obtain ⟨o', h3, h4⟩ := hd.get (bu.key hk)
    exact ⟨a, o', rfl, h3, h4⟩
  · cases h2
end
section
variable {X : Cx} {k : Nat}
theorem room65 (hr : Room k X.A) : X.A.units + 65 < cLine := by have := hr.un; omega
theorem all60 {x : D} {l : List D} (h : (dep 60 x && l.all (dep 60)) = true) : dep 60 x = true ∧ dep 61 (.list l) = true ∧ dep 61 (.tuple l) = true := by
  rw [Bool.and_eq_true] at h
  exact ⟨h.1, h.2, h.2⟩
/-- subscripts -/
def IxOk (X : Cx) (o : O2) : Prop :=
  ∃ r : R2, IxR X r ∧ ∀ w O0 H0 O σ H env st v u d e x Q, Rel X.K w O0 H0 O σ H env st → Bp w O H v d → Bp w O H u e → app2 o d e = some x →
    (∀ v' H', Post O w.ps H st H' → Rp w (hid H' O) v' x → Q v' H') → r v u H Q
theorem ix_dict (hu : X.A.units + 1 < cLine) : IxR X (fun x y H Q => ∃ a v, x = .ref a ∧ DGet H a y (some v) ∧ Q v H) := by
  intro value slice pins s σ H x y v u Q I rx ry h hs
  obtain ⟨a, z, rfl, g, q⟩ := h
  obtain rfl : v = Value.ref a := rx
  exact tail_any (dict_typeIs I g) PySem.F.slot_dict_getitem.lookup (d_getItem hu I g ry fun w' s3 I3 rw' => ⟨z, H, I3, rw', q⟩) hs
theorem atI_all {w : Dr} {G : Hp} {xs : List V} {ds : List D} {i : Int} {y : D} (r : RpAll w G xs ds) (h : atI ds i = some y) : ∃ x, atI xs i = some x ∧ Rp w G x y := by
  unfold atI at h ⊢
  rw [Option.bind_eq_some_iff] at h
  obtain ⟨j, h1, h2⟩ := h
  obtain ⟨x, e1, e2⟩ := r.get' h2
  exact ⟨x, by rw [r.length, h1]; exact e1, e2⟩
theorem strOk_one {z : Str} {c : Nat} (h : PyData.strOk z = true) (hc : c ∈ z.cps.toList) : PyData.strOk ⟨#[c]⟩ = true := by
  unfold PyData.strOk at *
  simp only [Array.all_eq_true'] at h
  simp only [Array.all_eq_true', Array.mem_singleton]
  rintro x (rfl : x = c)
  exact h _ (by simpa using hc)
theorem ok_ix (hr : Room k X.A) : IxOk X .ix := by
  refine ⟨_, ix_seq.or (ix_dict (hu_of hr)), fun w O0 H0 O σ H env st v u d e x Q R bv bu ha q => ?_⟩
  cases d with
  | list l =>
    cases e with
    | int i =>
      obtain ⟨p, xs, rfl, h1, r1⟩ := bv.list
      obtain rfl := bu.int
      obtain ⟨z, e1, e2⟩ := atI_all r1 (show atI l i = some x from ha)
      exact .inl (.inl ⟨p, xs, i, z, rfl, rfl, SqL.of h1, e1, q _ H R.here e2⟩)
    | _ => cases ha
  | tuple l =>
    cases e with
    | int i =>
      obtain ⟨p, xs, rfl, h1, r1⟩ := bv.tuple
      obtain rfl := bu.int
      obtain ⟨z, e1, e2⟩ := atI_all r1 (show atI l i = some x from ha)
      exact .inl (.inr (.inl ⟨p, xs, i, z, rfl, rfl, SqT.of h1, e1, q _ H R.here e2⟩))
    | _ => cases ha
  | str z =>
    cases e with
    | int i =>
      simp only [app2] at ha
      split at ha
      · rename_i hz
        simp only [Option.map_eq_some_iff] at ha
        obtain ⟨c, h1, rfl⟩ := ha
        obtain ⟨rfl, hs⟩ := bv.str
        obtain rfl := bu.int
        refine .inl (.inr (.inr ⟨z, i, c, rfl, rfl, hz, h1, q _ H R.here (.str _ (strOk_one hs ?_))⟩))
        unfold atI at h1
        rw [Option.bind_eq_some_iff] at h1
        obtain ⟨j, _, h2⟩ := h1
        exact List.mem_of_getElem? h2
      · cases ha
    | _ => cases ha
  | dict l =>
    have ha : (lookD (.dict l) e).join = some x := by cases e <;> exact ha
    rw [Option.join_eq_some_iff] at ha
    obtain ⟨a, o', rfl, g, z⟩ := look_of bv bu ha
    rcases z with ⟨_, z⟩ | ⟨x', y, rfl, z, rp⟩
    · cases z
    · cases z
      exact .inr ⟨a, x', rfl, g, q _ H R.here rp⟩
  | _ => cases e <;> cases ha
end
end TK
namespace TK
open PySem PySem.Spec PyProof.Rows L2
def notStar : Expr → Bool
  | .Starred _ _ => false
  | _ => true
theorem star_ok {e : Expr} {es : List Expr} {env : PySem.Env} (h : notStar e = true) : starEach (e :: es) env = (false, eval e env) :: starEach es env := by
  cases e <;> first | rfl | cases h
theorem star_any {pos : Pos} {env : PySem.Env} : ∀ {es : List Expr}, es.all notStar = true → (backTo pos (starEach es env)).any (·.1) = false
  | [], _ => rfl
  | e :: es, h => by
    rw [List.all_cons, Bool.and_eq_true] at h
    rw [star_ok h.1]
    show ((false || (backTo pos (starEach es env)).any (·.1)) = false)
    rw [star_any h.2]
    rfl
section
variable {X : Cx} {E : XK} {Γ : List FnSem} {k : Nat}
/-- one borrowed argument -/
theorem s_arg1 {e : Expr} {A : TK.E} (h : PE X e (rdB X.K X.mg E Γ A)) (hs : notStar e = true) : PA X [e] (tCons (rdB X.K X.mg E Γ A) tNil) := pa_cons h pa_nil (star_ok hs)
def CallOk (X : Cx) (f : Value) (o : O1) : Prop :=
  ∃ r, CallR X f r ∧ ∀ w O0 H0 O σ H env st v d x Q, Rel X.K w O0 H0 O σ H env st → Bp w O H v d → app1 o d = some x → (∀ v' H', Post O w.ps H st H' → Rp w (hid H' O) v' x → Q v' H') → r [v] H Q
theorem CallOk.rd {f : Value} {o : O1} {A : TK.E} {r : List V → Hp → VK → Prop}
    (h : ∀ w O0 H0 O σ H env st v d x Q, Rel X.K w O0 H0 O σ H env st → Bp w O H v d → app1 o d = some x → (∀ v' H', Post O w.ps H st H' → Rp w (hid H' O) v' x → Q v' H') → r [v] H Q) :
    ∀ σ H Q, TK.rd X.K X.mg E Γ (.op1 o A) σ H Q → tCB r (tCons (rdB X.K X.mg E Γ A) tNil) σ H Q := fun σ H Q q => by
  obtain ⟨w, O0, H0, O, env, st, rr, st', R, q, oo⟩ := q
  refine rdB_bind R (f := fun x => liftO (app1 o x)) q oo fun d st1 v H1 R1 p1 q1 h1 o1 => ?_
  obtain ⟨x, h3, rfl, rfl⟩ := liftO_inv h1
  exact h w O0 H0 O σ H1 env _ v d x Q R1 q1 h3 fun v' H' p z => o1 H' p v' z
theorem s_callB {id : String} {x : Str} {o : O1} {e : Expr} {A : TK.E} {p pos : Pos} (hc : CallOk X (.builtin id) o) (hg : Gl X x) (hm : X.mg x = none) (hv : bootBuiltins x = some (.builtin id)) (h : PE X e (rdB X.K X.mg E Γ A)) (hs : notStar e = true)
    (hn : x ≠ "__name__") (hdb : (x == ("__debug__" : Str)) = false) : PE X (.Call (.Name x p) [e] [] pos) (TK.rd X.K X.mg E Γ (.op1 o A)) := by
  obtain ⟨r, h1, h2⟩ := hc
  exact (pe_callB h1 hg hm hv (s_arg1 h hs) hn hdb (star_ok hs) rfl).weak (CallOk.rd (f := .builtin id) h2)
theorem s_callT {T : String} {x : Str} {o : O1} {e : Expr} {A : TK.E} {p pos : Pos} (hc : CallOk X (.type T) o) (hg : Gl X x) (hm : X.mg x = none) (hv : bootBuiltins x = some (.type T)) (h : PE X e (rdB X.K X.mg E Γ A)) (hs : notStar e = true)
    (hn : x ≠ "__name__") (hdb : (x == ("__debug__" : Str)) = false) : PE X (.Call (.Name x p) [e] [] pos) (TK.rd X.K X.mg E Γ (.op1 o A)) := by
  obtain ⟨r, h1, h2⟩ := hc
  exact (pe_callTy h1 hg hm hv (s_arg1 h hs) hn hdb (star_ok hs) rfl).weak (CallOk.rd (f := .type T) h2)
theorem len_dict : CallR X (.builtin "len") (fun xs H Q => ∃ a, xs = [V.ref a] ∧ ((∃ kvs, Rd H a (.dK kvs) ∧ Q (.int kvs.length) H) ∨ False)) := by
  intro pins s σ H xs us Q I r h
  obtain ⟨a, rfl, ⟨kvs, ha, q⟩ | z⟩ := h
  · obtain ⟨u, rfl, ru⟩ := vals1 r
    cases ru
    exact d_len I ha fun t s' I' => ⟨.int kvs.length, H, I', ⟨t, rfl⟩, q⟩
  · exact z.elim
theorem RpKV.length {w : Dr} {G : Hp} : ∀ {kvs : List (Key × V)} {l : List (D × D)}, RpKV w G kvs l → kvs.length = l.length
  | _, _, .nil => rfl
  | _, _, .cons _ _ h => by rw [List.length_cons, List.length_cons, RpKV.length h]
theorem c_len : CallOk X (.builtin "len") .len := by
  refine ⟨_, call_len.or len_dict, fun w O0 H0 O σ H env st v d x Q R bv ha q => ?_⟩
  cases d with
  | str s =>
    simp only [app1] at ha
    split at ha
    · cases ha
      obtain ⟨rfl, _⟩ := bv.str
      exact .inl ⟨_, _, rfl, ⟨by assumption, rfl⟩, q _ H R.here (.int _)⟩
    · cases ha
  | list l =>
    cases ha
    obtain ⟨p, xs, rfl, h1, r1⟩ := bv.list
    exact .inl ⟨_, _, rfl, .inl ⟨xs, SqL.of h1, r1.length.symm⟩, q _ H R.here (.int _)⟩
  | tuple l =>
    cases ha
    obtain ⟨p, xs, rfl, h1, r1⟩ := bv.tuple
    exact .inl ⟨_, _, rfl, .inr ⟨xs, SqT.of h1, r1.length.symm⟩, q _ H R.here (.int _)⟩
  | dict l =>
    simp only [app1, Option.bind_eq_some_iff] at ha
    obtain ⟨⟨t, l'⟩, h1, h2⟩ := ha
    cases t with
    | false =>
      cases h2
      obtain ⟨a, rfl, hd⟩ := bv.dict h1
      cases hd with
      | k h3 h4 => exact .inr ⟨a, rfl, .inl ⟨_, h3, by rw [h4.length]; exact q _ H R.here (.int _)⟩⟩
    | true => cases h2
  | _ => cases ha
theorem bools_V {w : Dr} {G : Hp} : ∀ {xs : List V} {ds : List D} {bs : List Bool}, RpAll w G xs ds → boolsOf ds = some bs → xs = bs.map V.bl
  | _, _, _, .nil, h => by cases h; rfl
  | _, _, _, .cons (d := d) a b, h => by
    cases a with
    | bl c =>
      simp only [boolsOf, Option.map_eq_some_iff] at h
      obtain ⟨r, h1, rfl⟩ := h
      rw [bools_V b h1]
      rfl
    | _ => cases h
theorem c_all (hc : X.calm = true) : CallOk X (.builtin "all") .all := by
  refine ⟨_, cr_all hc, fun w O0 H0 O σ H env st v d x Q R bv ha q => ?_⟩
  cases d with
  | list l =>
    simp only [app1, Option.map_eq_some_iff] at ha
    obtain ⟨bs, h1, rfl⟩ := ha
    obtain ⟨p, xs, rfl, h2, r1⟩ := bv.list
    obtain rfl := bools_V r1 h1
    exact ⟨p, bs, rfl, SqL.of h2, q _ H R.here (.bl _)⟩
  | _ => cases ha
theorem c_abs : CallOk X (.builtin "abs") .abs := by
  refine ⟨_, call_abs, fun w O0 H0 O σ H env st v d x Q R bv ha q => ?_⟩
  cases d with
  | int i =>
    cases ha
    obtain rfl := bv.int
    exact ⟨i, rfl, q _ H R.here (.int _)⟩
  | _ => cases ha
def signsV (z : Str) : List V := z.cps.toList.map fun c => .str ⟨#[c]⟩
theorem tuple_str (hc : X.calm = true) : CallR X (.type "tuple") (fun xs H Q => ∃ z : Str, xs = [.str z] ∧ z.length ≤ sizeLine ∧ ∀ p, H p = none → Q (.ref p) (upd H p (.tup (signsV z)))) := by
  intro pins s σ H xs us Q I r h
  obtain ⟨z, rfl, hz, q⟩ := h
  obtain ⟨u, rfl, t, rfl⟩ := vals1 r
  refine call_tuple_str (I.ok.hd hc) z t (fun h' tk acc hk hi => ?_) hz
  have I2 : Inv X pins σ H { s with heap := h', toks := tk } := I.kept hk
  have hv : Vals (signsV z) acc.toList := by
    refine vals_of_at ?_ fun j x u e1 e2 => ?_
    · unfold signsV
      rw [List.length_map, Array.length_toList, Array.length_toList, hi.1]
    · obtain ⟨c, tt, e3, rfl⟩ := hi.2 j u (by simpa using e2)
      unfold signsV at e1
      rw [List.getElem?_map, Array.getElem?_toList, e3] at e1
      cases e1
      exact ⟨tt, rfl⟩
  refine ⟨.ref h'.objs.size, upd H h'.objs.size (.tup (signsV z)), I2.laid (t' := tk) (fun c o e => Heap.get?_push_of_some _ e) (Nat.le_refl _) (show ObjOk X.prog X.w _ _ _ (.tup (signsV z)) from ⟨?_, acc.toList, hv, ?_⟩), rfl, q _ (I2.hok.fresh (Nat.le_refl _))⟩
  · unfold signsV
    rw [List.length_map, Array.length_toList]
    exact hz
  · rw [Array.toArray_toList]; exact IsTup.new _ _
theorem rp_signs {w : Dr} {G : Hp} {z : Str} (h : PyData.strOk z = true) : RpAll w G (signsV z) (chars z) := by
  have key : ∀ l : List Nat, (∀ c ∈ l, c ∈ z.cps.toList) → RpAll w G (l.map fun c => V.str ⟨#[c]⟩) (l.map fun c => PyData.str ⟨#[c]⟩) := by
    intro l
    induction l with
    | nil => intro _; exact .nil
    | cons c l ih => intro hl; exact .cons (.str _ (strOk_one h (hl c List.mem_cons_self))) (ih fun x hx => hl x (List.mem_cons_of_mem _ hx))
  exact key _ fun _ h => h
theorem c_tuple (hc : X.calm = true) : CallOk X (.type "tuple") .tupleOf := by
  refine ⟨_, call_tuple_of.or (tuple_str hc), fun w O0 H0 O σ H env st v d x Q R bv ha q => ?_⟩
  cases d with
  | list l =>
    cases ha
    obtain ⟨p, xs, rfl, h2, r1⟩ := bv.list
    exact .inl ⟨p, xs, rfl, .inl ⟨SqL.of h2, fun z hz => q _ _ (R.post_new hz) (rp_newT R hz r1)⟩⟩
  | tuple l =>
    cases ha
    obtain ⟨p, xs, rfl, h2, r1⟩ := bv.tuple
    exact .inl ⟨p, xs, rfl, .inr ⟨SqT.of h2, q _ H R.here bv.tupleR⟩⟩
  | str s =>
    simp only [app1] at ha
    split at ha
    · cases ha
      obtain ⟨rfl, hs⟩ := bv.str
      exact .inr ⟨s, rfl, by assumption, fun z hz => q _ _ (R.post_new hz) (rp_newT R hz (rp_signs hs))⟩
    · cases ha
  | _ => cases ha
theorem c_list : CallOk X (.type "list") .listOf := by
  refine ⟨_, call_list_of, fun w O0 H0 O σ H env st v d x Q R bv ha q => ?_⟩
  cases d with
  | list l =>
    cases ha
    obtain ⟨p, xs, rfl, h2, r1⟩ := bv.list
    exact ⟨p, xs, rfl, .inl (SqL.of h2), fun z hz => q _ _ (R.post_new hz) (rp_newL R hz r1)⟩
  | tuple l =>
    cases ha
    obtain ⟨p, xs, rfl, h2, r1⟩ := bv.tuple
    exact ⟨p, xs, rfl, .inr (SqT.of h2), fun z hz => q _ _ (R.post_new hz) (rp_newL R hz r1)⟩
  | _ => cases ha
theorem strOk_digits0 : ∀ n : _root_.Fin 100, PyData.strOk (toString (n.val : Int) : String) = true ∧ PyData.strOk (toString (-(n.val : Int)) : String) = true := by decide +kernel
theorem strOk_digits {i : Int} (h : i.natAbs < 100) : PyData.strOk (toString i : String) = true := by
  have := strOk_digits0 ⟨i.natAbs, h⟩
  rcases Int.natAbs_eq i with e | e
  · rw [e]; exact this.1
  · rw [e]; exact this.2
theorem call_str_bool : CallR X (.type "str") (fun xs H Q => ∃ b : Bool, xs = [.bl b] ∧ Q (.str (if b then "True" else "False")) H) := by
  intro pins s σ H xs us Q I r h
  obtain ⟨b, rfl, q⟩ := h
  obtain ⟨u, rfl, r1⟩ := vals1 r
  cases r1
  exact PySem.P.str_of_bool ⟨.str _, H, I.tok _, ⟨_, rfl⟩, q⟩
theorem c_str : CallOk X (.type "str") .str := by
  refine ⟨_, call_str_int.or call_str_bool, fun w O0 H0 O σ H env st v d x Q R bv ha q => ?_⟩
  cases d with
  | int i =>
    simp only [app1] at ha
    split at ha
    · rename_i hi
      cases ha
      obtain rfl := bv.int
      refine .inl ⟨i, rfl, ?_, q _ H R.here (.str _ (strOk_digits hi))⟩
      by_cases h0 : i.natAbs = 0
      · rw [h0]; decide
      · have := (Nat.log2_lt h0).mpr (Nat.lt_of_lt_of_le hi (by decide : 100 ≤ 2 ^ 7))
        omega
    · cases ha
  | bool b =>
    cases ha
    obtain rfl := bv.bool
    exact .inr ⟨b, rfl, q _ H R.here (.str _ (by cases b <;> decide +kernel))⟩
  | _ => cases ha
theorem c_int : CallOk X (.type "int") .int := by
  refine ⟨_, call_int1, fun w O0 H0 O σ H env st v d x Q R bv ha q => ?_⟩
  cases d with
  | int i =>
    cases ha
    obtain rfl := bv.int
    exact .inl ⟨i, rfl, q _ H R.here (.int _)⟩
  | bool b =>
    cases ha
    obtain rfl := bv.bool
    exact .inr ⟨b, rfl, q _ H R.here (.int _)⟩
  | _ => cases ha
theorem tru_inv {d : D} {r : Except Str Bool} {st st' : DSt} (h : tru d st = some (r, st')) : ∃ b, truth d = some b ∧ r = .ok b ∧ st' = st := liftO_inv h
theorem truV_of {w : Dr} {O : Addr → Bool} {H : Hp} {v : V} {d : D} {b : Bool} {K : PySem.W.Frag} (h : Bp w O H v d) (t : truth d = some b) : TruV K v H b := by
  cases d with
  | none => obtain rfl := h.none; cases t; rfl
  | bool c => obtain rfl := h.bool; cases t; rfl
  | int i => obtain rfl := h.int; cases t; rfl
  | str s =>
    obtain ⟨rfl, _⟩ := h.str
    simp only [truth] at t
    split at t
    · cases t
      refine ⟨by assumption, ?_⟩
      cases hs : s.length with
      | zero => rfl
      | succ n => rfl
    · cases t
  | list l =>
    obtain ⟨a, xs, rfl, h1, r1⟩ := h.list
    cases t
    refine .inl ⟨xs, SqL.of h1, ?_⟩
    cases r1 <;> rfl
  | tuple l =>
    obtain ⟨a, xs, rfl, h1, r1⟩ := h.tuple
    cases t
    refine .inr (.inl ⟨xs, SqT.of h1, ?_⟩)
    cases r1 <;> rfl
  | dict l => cases t
end
end TK
namespace TK
open PySem PySem.Spec PyProof.Rows L2
theorem orB_of {Γ : List FnSem} {env : Env} {A : TK.E} {st st' : DSt} {r : Except Str D} (h : ev Γ env A st = some (r, st')) : orB env A (ev Γ env A) st = some (r, st') := by
  cases A with
  | var i =>
    obtain ⟨d, h1, e1, e2⟩ := liftO_inv (x := getV env i) h
    subst e1 e2
    show liftO (getB env i) _ = _
    have : getB env i = some d := by
      unfold getV at h1
      unfold getB
      split at h1
      · rename_i e
        rw [e]
        exact h1
      · cases h1
    rw [this]
    rfl
  | _ => exact h
section
variable {X : Cx} {E : XK} {Γ : List FnSem} {k : Nat}
theorem s_not {a : Expr} {A : TK.E} {pos : Pos} (ha : PE X a (rdB X.K X.mg E Γ A)) : PE X (.UnaryOp .Not a pos) (rd X.K X.mg E Γ (.op1 .not A)) := by
  refine (pe_notT ha).weak fun σ H Q q => ?_
  obtain ⟨w, O0, H0, O, env, st, rr, st', R, q, oo⟩ := q
  refine rdB_bind R (f := fun x => liftO (app1 .not x)) q oo fun d st1 v H1 R1 p1 q1 h1 o1 => ?_
  obtain ⟨x, h3, rfl, rfl⟩ := liftO_inv h1
  simp only [app1, Option.map_eq_some_iff] at h3
  obtain ⟨b, h4, rfl⟩ := h3
  exact ⟨b, truV_of q1 h4, o1 H1 R1.here _ (.bl _)⟩
theorem s_and {a b : Expr} {rest : List Expr} {A B : TK.E} {pos : Pos} (ha : PE X a (rd X.K X.mg E Γ A)) (hb : PE X (.BoolOp .And (b :: rest) pos) (rd X.K X.mg E Γ B)) : PE X (.BoolOp .And (a :: b :: rest) pos) (rd X.K X.mg E Γ (.and A B)) := by
  refine (pe_andT ha hb).weak fun σ H Q q => ?_
  obtain ⟨w, O0, H0, O, env, st, rr, st', R, q, oo⟩ := q
  refine rd_bind R (f := fun x => tru x >>= fun k => if k then ev Γ env B else pure x) q oo fun d st1 v H1 R1 p1 q1 h1 o1 => ?_
  rcases bind_inv h1 with ⟨c, h2, rfl⟩ | ⟨b, st2, h2, h3⟩
  · obtain ⟨b, _, z, _⟩ := tru_inv h2
    cases z
  · obtain ⟨b', e1, e2, rfl⟩ := tru_inv h2
    cases e2
    refine ⟨b, truV_of (.inl q1) e1, ?_⟩
    cases b with
    | true => exact ⟨w, O0, H0, O, env, _, _, _, R1, h3, o1⟩
    | false =>
      obtain ⟨rfl, rfl⟩ := pure_inv h3
      exact o1 H1 R1.here v q1
theorem s_one {op : BoolOp} {a : Expr} {A : TK.E} {pos : Pos} (ha : PE X a (rd X.K X.mg E Γ A)) : PE X (.BoolOp op [a] pos) (rd X.K X.mg E Γ A) := pe_one ha
theorem s_ite {c a b : Expr} {C A B : TK.E} {pos : Pos} (hc : PT X c (rdT X.K X.mg E Γ C)) (ha : PE X a (rd X.K X.mg E Γ A)) (hb : PE X b (rd X.K X.mg E Γ B)) : PE X (.IfExp c a b pos) (rd X.K X.mg E Γ (.ite C A B)) := by
  refine (pe_ifExp hc ha hb).weak fun σ H Q q => ?_
  obtain ⟨w, O0, H0, O, env, st, rr, st', R, q, oo⟩ := q
  have q' : ((do let d ← orB env C (ev Γ env C); tru d) >>= fun k => if k then ev Γ env A else ev Γ env B) st = some (rr, st') := by
    rw [bind_assoc']
    exact q
  refine rdT_bind R q' oo fun b st1 H1 R1 p1 h1 o1 => ?_
  cases b with
  | true => exact ⟨w, O0, H0, O, env, _, _, _, R1, h1, o1⟩
  | false => exact ⟨w, O0, H0, O, env, _, _, _, R1, h1, o1⟩
theorem s_chain {op op' : CmpOp} {o o' : O2} {a b c : Expr} {A B C : TK.E} {pos : Pos} (h : OpOk X (compareOp op) o) (h' : OpOk X (compareOp op') o') (ha : PE X a (rdB X.K X.mg E Γ A)) (hb : PE X b (rdB X.K X.mg E Γ B)) (hc : PE X c (rdB X.K X.mg E Γ C))
    (hm : lastMarks [op, op'] [b, c] = false) (ho : ∀ d e x, app2 o d e = some x → ∃ b, x = .bool b) : PE X (.Compare a [op, op'] [b, c] pos) (rd X.K X.mg E Γ (.chain o o' A B C)) := by
  obtain ⟨r, h1, h2⟩ := h
  obtain ⟨r', h1', h2'⟩ := h'
  refine (pe_chain h1 h1' ha hb hc hm).weak fun σ H Q q => ?_
  obtain ⟨w, O0, H0, O, env, st, rr, st', R, q, oo⟩ := q
  refine rdB_bind R (f := fun x => orB env B (ev Γ env B) >>= fun y => liftO (app2 o x y) >>= fun r => match r with
    | .bool true => orB env C (ev Γ env C) >>= fun z => liftO (app2 o' y z)
    | .bool false => pure (.bool false)
    | _ => fail) q oo fun d st1 v H1 R1 p1 q1 g1 o1 => ?_
  refine rdB_bind R1 g1 o1 fun e st2 u H2 R2 p2 q2 g2 o2 => ?_
  rcases bind_inv g2 with ⟨c, g3, rfl⟩ | ⟨x, st3, g3, g4⟩
  · obtain ⟨_, _, z, _⟩ := liftO_inv g3
    cases z
  · obtain ⟨x', e1, e2, rfl⟩ := liftO_inv g3
    cases e2
    obtain ⟨b, rfl⟩ := ho _ _ _ e1
    refine h2 w O0 H0 O σ H2 env _ v u d e _ _ R2 (q1.ext p2.1) q2 e1 fun v' H3 p3 z3 => ?_
    cases z3
    refine ⟨b, rfl, ?_⟩
    have R3 := R2.post p3
    cases b with
    | false =>
      obtain ⟨rfl, rfl⟩ := pure_inv g4
      exact o2 H3 p3 _ (.bl _)
    | true =>
      refine rdB_bind R3 g4 (o2.later p3) fun z st4 y H4 R4 p4 q4 g5 o4 => ?_
      obtain ⟨x', e3, rfl, rfl⟩ := liftO_inv g5
      exact h2' w O0 H0 O σ H4 env _ u y e z _ _ R4 (q2.ext (p3.trans p4).1) q4 e3 fun v' H5 p5 z5 => o4 H5 p5 _ z5
theorem t_truth {e : Expr} {A : TK.E} (h : PE X e (rdB X.K X.mg E Γ A)) (he : ∀ whole, isTrue e X.env whole = (do let v ← whole; standAt e.pos; holding [v] (truthy v))) : PT X e (rdT X.K X.mg E Γ A) := by
  refine (pt_truth h he).weak fun σ H Q q => ?_
  obtain ⟨w, O0, H0, O, env, st, rr, st', R, q, oo⟩ := q
  refine rdB_bind R (f := tru) q oo fun d st1 v H1 R1 p1 q1 h1 o1 => ?_
  obtain ⟨b, h4, rfl, rfl⟩ := tru_inv h1
  exact ⟨b, truV_of q1 h4, o1 H1 R1.here⟩
theorem not_tru (x : D) : (liftO (app1 .not x) >>= tru) = (tru x >>= fun b => (pure (!b) : M Bool)) := by
  simp only [app1, tru]
  cases truth x <;> rfl
theorem t_not {a : Expr} {A : TK.E} {pos : Pos} (ha : PT X a (rdT X.K X.mg E Γ A)) : PT X (.UnaryOp .Not a pos) (rdT X.K X.mg E Γ (.op1 .not A)) := by
  refine (pt_not ha).weak fun σ H Q q => ?_
  obtain ⟨w, O0, H0, O, env, st, rr, st', R, q, oo⟩ := q
  have q' : ((do let d ← orB env A (ev Γ env A); tru d) >>= fun b => (pure (!b) : M Bool)) st = some (rr, st') := by
    have q : ((orB env A (ev Γ env A) >>= fun x => liftO (app1 .not x)) >>= tru) st = some (rr, st') := q
    rw [bind_assoc'] at q ⊢
    simpa only [not_tru] using q
  refine rdT_bind R q' oo fun b st1 H1 R1 p1 h1 o1 => ?_
  obtain ⟨rfl, rfl⟩ := pure_inv h1
  exact o1 H1 R1.here
theorem t_or {a b : Expr} {rest : List Expr} {A B : TK.E} {pos : Pos} (ha : PT X a (rdT X.K X.mg E Γ A)) (hb : PW X (.BoolOp .Or (b :: rest) pos) (rdT X.K X.mg E Γ B)) : PW X (.BoolOp .Or (a :: b :: rest) pos) (rdT X.K X.mg E Γ (.or A B)) := by
  refine ⟨fun wh pins s σ H Q I q => (pw_or ha hb).run wh pins s σ H Q I ?_⟩
  obtain ⟨w, O0, H0, O, env, st, rr, st', R, q, oo⟩ := q
  have q : ((ev Γ env A >>= fun x => tru x >>= fun k => if k then pure x else ev Γ env B) >>= tru) st = some (rr, st') := q
  rw [bind_assoc'] at q
  rcases bind_inv q with ⟨c, h1, rfl⟩ | ⟨d, st1, h1, h2⟩
  · exact ⟨w, O0, H0, O, env, st, .error c, _, R, bind_err (orB_of h1), oo⟩
  · rw [bind_assoc'] at h2
    rcases bind_inv h2 with ⟨c, h3, rfl⟩ | ⟨k, st2, h3, h4⟩
    · obtain ⟨b, _, z, _⟩ := tru_inv h3
      cases z
    · refine ⟨w, O0, H0, O, env, st, .ok k, st2, R, ?_, fun H1 p1 => ?_⟩
      · rw [bind_eq (orB_of h1)]
        exact h3
      · have R1 := R.post p1
        have o1 := oo.later p1
        obtain ⟨k', e1, e2, rfl⟩ := tru_inv h3
        cases e2
        cases k with
        | false =>
          refine ⟨w, O0, H0, O, env, _, rr, st', R1, ?_, o1⟩
          rcases bind_inv h4 with ⟨c, h5, rfl⟩ | ⟨x, st3, h5, h6⟩
          · exact bind_err (orB_of h5)
          · rw [bind_eq (orB_of h5)]
            exact h6
        | true =>
          have h4 : tru d st2 = some (rr, st') := h4
          obtain ⟨k', e3, rfl, rfl⟩ := tru_inv h4
          rw [e1] at e3
          cases e3
          exact o1 H1 R1.here
theorem t_or1 {a : Expr} {A : TK.E} {pos : Pos} (ha : PT X a (rdT X.K X.mg E Γ A)) : PW X (.BoolOp .Or [a] pos) (rdT X.K X.mg E Γ A) := pw_or1 ha
/-- a comparison as a test -/
theorem t_cmp {op : CmpOp} {o : O2} {a b : Expr} {A B : TK.E} {pos : Pos} (h : OpOk X (compareOp op) o) (ha : PE X a (rdB X.K X.mg E Γ A)) (hb : PE X b (rdB X.K X.mg E Γ B)) (hm : behindInMarks op b = false) (ho : ∀ d e x, app2 o d e = some x → ∃ b, x = .bool b) :
    PT X (.Compare a [op] [b] pos) (rdT X.K X.mg E Γ (.op2 o A B)) := by
  obtain ⟨r, h1, h2⟩ := h
  refine (pt_cmpR h1 ha hb hm).weak fun σ H Q q => ?_
  obtain ⟨w, O0, H0, O, env, st, rr, st', R, q, oo⟩ := q
  have q : ((orB env A (ev Γ env A) >>= fun x => orB env B (ev Γ env B) >>= fun y => liftO (app2 o x y)) >>= tru) st = some (rr, st') := q
  rw [bind_assoc'] at q
  refine rdB_bind R q oo fun d st1 v H1 R1 p1 q1 g1 o1 => ?_
  rw [bind_assoc'] at g1
  refine rdB_bind R1 g1 o1 fun e st2 u H2 R2 p2 q2 g2 o2 => ?_
  rcases bind_inv g2 with ⟨c, g3, rfl⟩ | ⟨x, st3, g3, g4⟩
  · obtain ⟨_, _, z, _⟩ := liftO_inv g3
    cases z
  · obtain ⟨x', e1, e2, rfl⟩ := liftO_inv g3
    cases e2
    obtain ⟨b, rfl⟩ := ho _ _ _ e1
    obtain ⟨b', e3, rfl, rfl⟩ := tru_inv g4
    cases e3
    refine h2 w O0 H0 O σ H2 env _ v u d e _ _ R2 (q1.ext p2.1) q2 e1 fun v' H3 p3 z3 => ?_
    cases z3
    exact ⟨b, rfl, o2 H3 p3⟩
/-- a chain as a test -/
theorem t_chain {op op' : CmpOp} {o o' : O2} {a b c : Expr} {A B C : TK.E} {pos : Pos} (h : OpOk X (compareOp op) o) (h' : OpOk X (compareOp op') o') (ha : PE X a (rdB X.K X.mg E Γ A)) (hb : PE X b (rdB X.K X.mg E Γ B)) (hc : PE X c (rdB X.K X.mg E Γ C))
    (hm : lastMarks [op, op'] [b, c] = false) (ho : ∀ d e x, app2 o d e = some x → ∃ b, x = .bool b) (ho' : ∀ d e x, app2 o' d e = some x → ∃ b, x = .bool b) : PT X (.Compare a [op, op'] [b, c] pos) (rdT X.K X.mg E Γ (.chain o o' A B C)) := by
  obtain ⟨r, h1, h2⟩ := h
  obtain ⟨r', h1', h2'⟩ := h'
  refine (pt_chain h1 h1' ha hb hc hm).weak fun σ H Q q => ?_
  obtain ⟨w, O0, H0, O, env, st, rr, st', R, q, oo⟩ := q
  have q : ((orB env A (ev Γ env A) >>= fun x => orB env B (ev Γ env B) >>= fun y => liftO (app2 o x y) >>= fun r => match r with
    | .bool true => orB env C (ev Γ env C) >>= fun z => liftO (app2 o' y z)
    | .bool false => pure (.bool false)
    | _ => fail) >>= tru) st = some (rr, st') := q
  rw [bind_assoc'] at q
  refine rdB_bind R q oo fun d st1 v H1 R1 p1 q1 g1 o1 => ?_
  rw [bind_assoc'] at g1
  refine rdB_bind R1 g1 o1 fun e st2 u H2 R2 p2 q2 g2 o2 => ?_
  rw [bind_assoc'] at g2
  rcases bind_inv g2 with ⟨c, g3, rfl⟩ | ⟨x, st3, g3, g4⟩
  · obtain ⟨_, _, z, _⟩ := liftO_inv g3
    cases z
  · obtain ⟨x', e1, e2, rfl⟩ := liftO_inv g3
    cases e2
    obtain ⟨b, rfl⟩ := ho _ _ _ e1
    refine h2 w O0 H0 O σ H2 env _ v u d e _ _ R2 (q1.ext p2.1) q2 e1 fun v' H3 p3 z3 => ?_
    cases z3
    refine ⟨b, rfl, ?_⟩
    have R3 := R2.post p3
    cases b with
    | false =>
      have g4 : tru (.bool false) _ = some (rr, st') := g4
      obtain ⟨b', e3, rfl, rfl⟩ := tru_inv g4
      cases e3
      exact ⟨false, rfl, o2 H3 p3⟩
    | true =>
      have g4 : ((orB env C (ev Γ env C) >>= fun z => liftO (app2 o' e z)) >>= tru) _ = some (rr, st') := g4
      rw [bind_assoc'] at g4
      refine rdB_bind R3 g4 (o2.later p3) fun z st4 y H4 R4 p4 q4 g5 o4 => ?_
      rcases bind_inv g5 with ⟨c, g6, rfl⟩ | ⟨x, st5, g6, g7⟩
      · obtain ⟨_, _, z, _⟩ := liftO_inv g6
        cases z
      · obtain ⟨x', e3, e4, rfl⟩ := liftO_inv g6
        cases e4
        obtain ⟨b, rfl⟩ := ho' _ _ _ e3
        obtain ⟨b', e5, rfl, rfl⟩ := tru_inv g7
        cases e5
        refine h2' w O0 H0 O σ H4 env _ u y e z _ _ R4 (q2.ext (p3.trans p4).1) q4 e3 fun v' H5 p5 z5 => ?_
        cases z5
        exact ⟨b, rfl, o4 H5 p5⟩
end
end TK
namespace TK
open PySem PySem.Spec PyProof.Rows L2
section
variable {X : Cx} {E : XK} {Γ : List FnSem} {k : Nat}
theorem isN_of {w : Dr} {O : Addr → Bool} {H : Hp} {v : V} {d : D} (h : Bp w O H v d) : decide (v = .non) = !notNone d := by
  rcases h with h | ⟨p, rfl, _, _, h⟩
  · cases h <;> rfl
  · cases h <;> rfl
theorem s_isN {a : Expr} {A : TK.E} {j : Nat} {p' pos : Pos} (ha : PE X a (rdB X.K X.mg E Γ A)) : PE X (.Compare a [.Is] [.Constant .none j p'] pos) (rd X.K X.mg E Γ (.op1 .isN A)) := by
  refine (pe_cmp (pc_isN ha) rfl).weak fun σ H Q q => ?_
  obtain ⟨w, O0, H0, O, env, st, rr, st', R, q, oo⟩ := q
  refine rdB_bind R (f := fun x => liftO (app1 .isN x)) q oo fun d st1 v H1 R1 p1 q1 h1 o1 => ?_
  obtain ⟨x, h3, rfl, rfl⟩ := liftO_inv h1
  cases h3
  rw [isN_of q1]
  exact o1 H1 R1.here _ (.bl _)
theorem t_isN {a : Expr} {A : TK.E} {j : Nat} {p' pos : Pos} (ha : PE X a (rdB X.K X.mg E Γ A)) : PT X (.Compare a [.Is] [.Constant .none j p'] pos) (rdT X.K X.mg E Γ (.op1 .isN A)) := by
  refine (pt_cmp (pc_isN ha) rfl).weak fun σ H Q q => ?_
  obtain ⟨w, O0, H0, O, env, st, rr, st', R, q, oo⟩ := q
  have q : ((orB env A (ev Γ env A) >>= fun x => liftO (app1 .isN x)) >>= tru) st = some (rr, st') := q
  rw [bind_assoc'] at q
  refine rdB_bind R q oo fun d st1 v H1 R1 p1 q1 h1 o1 => ?_
  refine ⟨_, rfl, ?_⟩
  rw [isN_of q1]
  cases h1
  exact o1 H1 R1.here
def rdO (K : PySem.W.Frag) (mg : Str → Option Value) (E : XK) (Γ : List FnSem) (T : Option TK.E) : TO := fun σ H Q => ∃ w O0 H0 O env st r st', Rel K w O0 H0 O σ H env st ∧ evo Γ env T st = some (r, st') ∧ Out mg E O w.ps H r st' fun i H' => Q i H'
theorem _root_.L2.PO.weak {X : Cx} {e : Option Expr} {t t' : TO} (h : PO X e t) (i : ∀ σ H Q, t' σ H Q → t σ H Q) : PO X e t' := ⟨fun pins s σ H Q I q => h.run pins s σ H Q I (i σ H Q q)⟩
theorem o_none : PO X none (rdO X.K X.mg E Γ none) := by
  refine po_none.weak fun σ H Q q => ?_
  obtain ⟨w, O0, H0, O, env, st, rr, st', R, q, oo⟩ := q
  obtain ⟨rfl, rfl⟩ := pure_inv (a := (none : Option Int)) q
  exact oo H R.here
theorem o_some {e : Expr} {A : TK.E} (h : PE X e (rd X.K X.mg E Γ A)) : PO X (some e) (rdO X.K X.mg E Γ (some A)) := by
  refine (po_some h).weak fun σ H Q q => ?_
  obtain ⟨w, O0, H0, O, env, st, rr, st', R, q, oo⟩ := q
  refine rd_bind R (f := fun d => match d with | .int i => pure (some i) | _ => fail) q oo fun d st1 v H1 R1 p1 q1 h1 o1 => ?_
  cases q1 with
  | int i =>
    obtain ⟨rfl, rfl⟩ := pure_inv (a := some i) h1
    exact ⟨i, rfl, o1 H1 R1.here⟩
  | _ => cases h1
theorem strOk_cut {z : Str} (lo hi : Option Int) (h : PyData.strOk z = true) : PyData.strOk ⟨(cut z.cps.toList lo hi).toArray⟩ = true := by
  unfold PyData.strOk at *
  simp only [Array.all_eq_true'] at h ⊢
  intro x hx
  refine h x ?_
  have : x ∈ cut z.cps.toList lo hi := by simpa using hx
  unfold cut at this
  simpa using List.mem_of_mem_drop (List.mem_of_mem_take this)
theorem s_slc {e : Expr} {lo hi : Option Expr} {A : TK.E} {L U : Option TK.E} {p2 pos : Pos} (ha : PE X e (rdB X.K X.mg E Γ A)) (hl : PO X lo (rdO X.K X.mg E Γ L)) (hu : PO X hi (rdO X.K X.mg E Γ U)) :
    PE X (.Subscript e (.Slice lo hi none p2) pos) (rd X.K X.mg E Γ (.slc A L U)) := by
  refine (pe_slice (sl_list.or (sl_tupA.or sl_str)) ha hl hu).weak fun σ H Q q => ?_
  obtain ⟨w, O0, H0, O, env, st, rr, st', R, q, oo⟩ := q
  refine rdB_bind R (f := fun x => evo Γ env L >>= fun l => evo Γ env U >>= fun h => liftO (slcD x l h)) q oo fun d st1 v H1 R1 p1 q1 h1 o1 => ?_
  rcases bind_inv h1 with ⟨c, h2, rfl⟩ | ⟨l, st2, h2, h3⟩
  · exact ⟨w, O0, H0, O, env, _, _, _, R1, h2, o1⟩
  · refine ⟨w, O0, H0, O, env, _, _, _, R1, h2, fun H2 p2 => ?_⟩
    have R2 := R1.post p2
    have o2 := o1.later p2
    rcases bind_inv h3 with ⟨c, h4, rfl⟩ | ⟨u, st3, h4, h5⟩
    · exact ⟨w, O0, H0, O, env, _, _, _, R2, h4, o2⟩
    · refine ⟨w, O0, H0, O, env, _, _, _, R2, h4, fun H3 p3 => ?_⟩
      have R3 := R2.post p3
      have o3 := o2.later p3
      obtain ⟨x, h6, rfl, rfl⟩ := liftO_inv h5
      have b3 := q1.ext (p2.trans p3).1
      cases d with
      | list ds =>
        cases h6
        obtain ⟨p, xs, rfl, g1, r1⟩ := b3.list
        exact .inl ⟨p, xs, rfl, SqL.of g1, fun z hz => o3 _ (R3.post_new hz) _ (rp_newL R3 hz (r1.cut _ _))⟩
      | tuple ds =>
        cases h6
        obtain ⟨p, xs, rfl, g1, r1⟩ := b3.tuple
        refine .inr (.inl ⟨p, xs, rfl, SqT.of g1, fun hw => ?_, fun hw z hz => o3 _ (R3.post_new hz) _ (rp_newT R3 hz (r1.cut _ _))⟩)
        have : cut ds l u = ds := by
          unfold cut
          rw [← r1.length, hw.1, hw.2, List.drop_zero, Nat.sub_zero, r1.length, List.take_length]
        rw [this] at o3
        exact o3 H3 R3.here _ b3.tupleR
      | str z =>
        simp only [slcD] at h6
        split at h6
        · cases h6
          obtain ⟨rfl, hz⟩ := b3.str
          refine .inr (.inr ⟨z, rfl, by assumption, o3 H3 R3.here _ (.str _ ?_)⟩)
          exact strOk_cut _ _ hz
        · cases h6
      | _ => cases h6
def tyN : Ty → String
  | .int => "int"
  | .bool => "bool"
  | .str => "str"
  | .tuple => "tuple"
  | .list => "list"
def tyD : D → String
  | .none => "NoneType"
  | .bool _ => "bool"
  | .int _ => "int"
  | .str _ => "str"
  | .list _ => "list"
  | .tuple _ => "tuple"
  | .dict _ => "dict"
theorem kit_tbl : ∀ t ∈ [Ty.int, .bool, .str, .tuple, .list], ∀ d ∈ [("NoneType", typ t .none), ("bool", typ t (.bool true)), ("int", typ t (.int 0)), ("str", typ t (.str ⟨#[]⟩)), ("list", typ t (.list [])), ("tuple", typ t (.tuple []))], kitB d.1 (tyN t) = d.2 := by decide +kernel
theorem kit_of_typ {t : Ty} {d : D} {b : Bool} (h : typ t d = some b) : kitB (tyD d) (tyN t) = some b := by
  have ht : t ∈ [Ty.int, .bool, .str, .tuple, .list] := by cases t <;> decide
  have := kit_tbl t ht
  cases d with
  | none => rw [← h]; exact this ("NoneType", typ t .none) (by simp)
  | bool _ => rw [← h]; exact (this ("bool", typ t (.bool true)) (by simp)).trans (by cases t <;> rfl)
  | int _ => rw [← h]; exact (this ("int", typ t (.int 0)) (by simp)).trans (by cases t <;> rfl)
  | str _ => rw [← h]; exact (this ("str", typ t (.str ⟨#[]⟩)) (by simp)).trans (by cases t <;> rfl)
  | list _ => rw [← h]; exact (this ("list", typ t (.list [])) (by simp)).trans (by cases t <;> rfl)
  | tuple _ => rw [← h]; exact (this ("tuple", typ t (.tuple [])) (by simp)).trans (by cases t <;> rfl)
  | dict _ => cases t <;> cases h
theorem tyX_of {w : Dr} {O : Addr → Bool} {H : Hp} {v : V} {d : D} {t : Ty} {b : Bool} (h : Bp w O H v d) (ht : typ t d = some b) : TyX X.K H v (.type (tyD d)) := by
  cases d with
  | none => obtain rfl := h.none; exact .base .non
  | bool b => obtain rfl := h.bool; exact .base (.bl b)
  | int i => obtain rfl := h.int; exact .base (.int i)
  | str s => obtain ⟨rfl, _⟩ := h.str; exact .base (.str s)
  | list l => obtain ⟨a, xs, rfl, h1, _⟩ := h.list; exact .base (.lst h1)
  | tuple l => obtain ⟨a, xs, rfl, h1, _⟩ := h.tuple; exact .base (.tup h1)
  | dict _ => cases t <;> cases ht
theorem s_isi {e : Expr} {A : TK.E} {t : Ty} {x : Str} {p p2 pos : Pos} (hg : Gl X "isinstance") (hm : X.mg "isinstance" = none) (hg2 : Gl X x) (hm2 : X.mg x = none) (hv : bootBuiltins x = some (.type (tyN t))) (hn : x ≠ "__name__") (hdb : (x == ("__debug__" : Str)) = false)
    (ha : PE X e (rdB X.K X.mg E Γ A)) (hs : notStar e = true) : PE X (.Call (.Name "isinstance" p) [e, .Name x p2] [] pos) (rd X.K X.mg E Γ (.op1 (.isi t) A)) := by
  refine (pe_callB call_isi hg hm (by decide +kernel) (pa_cons ha (pa_cons (pe_bltn (v := .ty (tyN t)) hg2 hm2 hv rfl hn hdb) pa_nil rfl) (star_ok hs)) (by decide) (by decide) (star_ok hs) rfl).weak fun σ H Q q => ?_
  obtain ⟨w, O0, H0, O, env, st, rr, st', R, q, oo⟩ := q
  refine rdB_bind R (f := fun x => liftO (app1 (.isi t) x)) q oo fun d st1 v H1 R1 p1 q1 h1 o1 => ?_
  obtain ⟨y, h3, rfl, rfl⟩ := liftO_inv h1
  simp only [app1, Option.map_eq_some_iff] at h3
  obtain ⟨b, h4, rfl⟩ := h3
  exact ⟨v, .ty (tyN t), _, _, b, rfl, .ty _, tyX_of q1 h4, kit_ty (kit_of_typ h4), o1 H1 R1.here _ (.bl _)⟩
end
/-- the promise of a def that does what F tells -/
def spOf (K : PySem.W.Frag) (mg : Str → Option Value) (F : FnSem) : Sp := fun vs H Q E => ∃ (w : Dr) (O : Addr → Bool) (st : DSt) (ds : List D) (r : Except Str D) (st' : DSt),
  (∀ a, O a = true → Al (H a)) ∧ O w.ps = true ∧ H w.ps = some (.lst (st.map V.int)) ∧ SqL K (hid H O) w.sa (w.ns.map V.int) ∧ RpAll w (hid H O) vs ds ∧ F ds st = some (r, st') ∧ Out mg E O w.ps H r st' fun d H' => ∀ v, Rp w (hid H' O) v d → Q v H'
/-- the def named nm stands and does what F tells -/
def FnGood (P : Program) (w : World) (K : PySem.W.Frag) (mg : Str → Option Value) (base : Heap) (k : Nat) (nm : Str) (F : FnSem) : Prop :=
  ∃ (f : Addr) (fd : FuncData) (ps : List Str), FnOk P w K mg base (L2.CX P w) k f fd ps (spOf K mg F) ∧ mg nm = some (.ref f) ∧ PySem.W.keepIn K (.ref f) = true ∧ Binds K fd ps []
theorem FnGood.mono {P : Program} {w : World} {K : PySem.W.Frag} {mg : Str → Option Value} {base : Heap} {j k : Nat} {nm : Str} {F : FnSem} (h : FnGood P w K mg base j nm F) (hk : j ≤ k) : FnGood P w K mg base k nm F := by
  obtain ⟨f, fd, ps, h1, h2, h3, h4⟩ := h
  exact ⟨f, fd, ps, h1.mono hk, h2, h3, h4⟩
theorem FnGood.imp {P : Program} {w : World} {K : PySem.W.Frag} {mg : Str → Option Value} {base : Heap} {k : Nat} {nm : Str} {F F' : FnSem} (h : FnGood P w K mg base k nm F) (hF : ∀ ds st r, F' ds st = some r → F ds st = some r) : FnGood P w K mg base k nm F' := by
  obtain ⟨f, fd, ps, h1, h2, h3, h4⟩ := h
  refine ⟨f, fd, ps, h1.imp fun vs H Q E q => ?_, h2, h3, h4⟩
  obtain ⟨w, O, st, ds, r, st', q1, q2, q3, q4, q5, q6, q7⟩ := q
  exact ⟨w, O, st, ds, r, st', q1, q2, q3, q4, q5, hF _ _ _ q6, q7⟩
section
variable {X : Cx} {E : XK} {Γ : List FnSem} {k : Nat}
theorem s_call {nm : Str} {j : Nat} {F : FnSem} {e : Expr} {es : List Expr} {As : List TK.E} {p pos : Pos} (G : FnGood X.prog X.w X.K X.mg X.base k nm F) (hj : Γ[j]? = some F) (hr : Room k X.A) (hx : Passes (L2.CX X.prog X.w) X E) (hg : Gl X nm) (ha : PA X (e :: es) (rdA X.K X.mg E Γ As))
    (hs : notStar e = true) (hss : es.all notStar = true) (hdb : (nm == ("__debug__" : Str)) = false) : PE X (.Call (.Name nm p) (e :: es) [] pos) (rd X.K X.mg E Γ (.call j As)) := by
  obtain ⟨f, fd, ps, h1, h2, h3, h4⟩ := G
  refine (pe_call h1 hr hg h2 h3 h4 .nil hx ha hdb (star_ok hs) (star_any hss)).weak fun σ H Q q => ?_
  obtain ⟨w, O0, H0, O, env, st, rr, st', R, q, oo⟩ := q
  have hF : Γ.getD j (fun _ => fail) = F := by rw [List.getD_eq_getElem?_getD, hj]; rfl
  have q : (evs Γ env As >>= fun ds => (Γ.getD j (fun _ => fail)) ds) st = some (rr, st') := q
  rw [hF] at q
  refine rdA_bind R q oo fun ds st1 vs H1 R1 p1 q1 g1 o1 => ?_
  rw [List.append_nil]
  exact ⟨w, O, st1, ds, rr, st', R1.alc, R1.sub _ R1.ops, R1.sts, R1.scr, q1, g1, o1⟩
end
end TK
namespace TK
open PySem PySem.Spec PyProof.Rows L2
theorem mem_nub {x : Str} : ∀ {l : List Str}, x ∈ nub l ↔ x ∈ l
  | [] => Iff.rfl
  | y :: l => by
    simp only [nub, List.mem_cons, List.mem_filter, mem_nub (l := l), decide_eq_true_eq]
    by_cases e : x = y
    · simp [e]
    · simp [e]
theorem nodup_nub : ∀ l : List Str, (nub l).Nodup
  | [] => List.nodup_nil
  | y :: l => by
    refine List.nodup_cons.mpr ⟨fun h => ?_, (nodup_nub l).filter _⟩
    simp at h
theorem nodup_len {l m : List Str} (h1 : l.Nodup) (h2 : m.Nodup) (e : ∀ x, x ∈ l ↔ x ∈ m) : l.length = m.length :=
  Nat.le_antisymm (nodup_sub_length h1 fun x hx => (e x).1 hx) (nodup_sub_length h2 fun x hx => (e x).2 hx)
theorem str_ext {a b : Str} (h : a.cps.toList = b.cps.toList) : a = b := PySem.W.str_of_cps h
theorem strLE_trans (a b c : Str) (h1 : strLE a b = true) (h2 : strLE b c = true) : strLE a c = true := by
  simp only [strLE, decide_eq_true_eq] at *
  exact Std.le_trans h1 h2
theorem strLE_total (a b : Str) : (strLE a b || strLE b a) = true := by
  simp only [strLE, Bool.or_eq_true, decide_eq_true_eq]
  exact Std.le_total
theorem strLE_anti {a b : Str} (h1 : strLE a b = true) (h2 : strLE b a = true) : a = b := by
  simp only [strLE, decide_eq_true_eq] at *
  exact str_ext (Std.le_antisymm h1 h2)
theorem sortS_sorted (l : List Str) : (sortS l).Pairwise fun a b => strLE a b = true := List.pairwise_mergeSort strLE_trans strLE_total l
theorem sortS_perm (l : List Str) : (sortS l).Perm l := List.mergeSort_perm l strLE
theorem sortS_unique {l m : List Str} (h : m.Pairwise fun a b => strLE a b = true) (p : m.Perm l) : m = sortS l :=
  List.Perm.eq_of_pairwise (fun a b _ _ h1 h2 => strLE_anti h1 h2) h (sortS_sorted l) (p.trans (sortS_perm l).symm)
/-- a set of texts, tracked -/
def TSO (wo : World) (a : Addr) (L : List Str) : HO := .ext fun h => TSet wo h a L
theorem tso_ok {P : Program} {wo : World} {H : Hp} {h : Heap} {a : Addr} {L : List Str} (T : TSet wo h a L) : ObjOk P wo H h a (TSO wo a L) :=
  ⟨T, let ⟨ob, _, _, _, e, _⟩ := T; ⟨ob, e⟩, fun _ _ T k => T.at k⟩
theorem scanB : scanBound = 4096 := rfl
section
variable {X : Cx} {E : XK} {Γ : List FnSem} {k : Nat}
theorem strs_at {ss : List Str} {us : List Value} (r : Vals (ss.map V.str) us) : ∀ (i : Nat) v, us.toArray[i]? = some v → ∃ x tk, ss[i]? = some x ∧ v = .str x tk := by
  intro i v hv
  have hv : us[i]? = some v := by simpa using hv
  have hl := r.length
  rw [List.length_map] at hl
  have hi : i < ss.length := by
    have := (List.getElem?_eq_some_iff.mp hv).1
    omega
  obtain ⟨u, e1, tk, e2⟩ := r.get (i := i) (x := .str ss[i]) (by rw [List.getElem?_map, List.getElem?_eq_getElem hi]; rfl)
  rw [hv] at e1
  cases e1
  exact ⟨ss[i], tk, List.getElem?_eq_getElem hi, e2⟩
theorem call_set (hc : X.calm = true) : CallR X (.type "set") (fun vs H Q => ∃ (a : Addr) (ss : List Str), vs = [.ref a] ∧ (H a = some (.lst (ss.map V.str)) ∨ H a = some (.tup (ss.map V.str))) ∧ ss.length < 4000 ∧ ∀ p, H p = none → Q (.ref p) (upd H p (TSO X.w p ss))) := by
  intro pins s σ H vs us Q I r h
  obtain ⟨a, ss, rfl, ha, hz, q⟩ := h
  rw [Vals.ref1 r]
  have fin : ∀ (g : Heap) (tk : Nat), TSet X.w g s.heap.objs.size ss → (∀ b ob, b < s.heap.objs.size → s.heap.get? b = some ob → g.get? b = some ob) → EP X pins σ Q (.ref s.heap.objs.size) { s with heap := g, toks := tk } := fun g tk T kp =>
    ⟨.ref s.heap.objs.size, _, I.laid (t' := tk) (fun b u e => kp b u (Heap.lt_size e) e) (Nat.le_refl _) (tso_ok T), rfl, q _ (I.hok.fresh (Nat.le_refl _))⟩
  rcases ha with ha | ha
  · obtain ⟨its, rv, pl, _⟩ := I.list (SqL.of ha)
    have hl := rv.length
    rw [List.length_map] at hl
    exact set_of_list (I.ok.hd hc) pl.isList (strs_at rv) (by rw [List.size_toArray]; exact hl) (by rw [List.size_toArray, scanB]; omega) fin
  · obtain ⟨its, rv, pl, _⟩ := I.tuple (SqT.of ha)
    have hl := rv.length
    rw [List.length_map] at hl
    exact set_of_tuple (I.ok.hd hc) pl (strs_at rv) (by rw [List.size_toArray]; exact hl) (by rw [List.size_toArray, scanB]; omega) fin
theorem len_set : CallR X (.builtin "len") (fun vs H Q => ∃ (a : Addr) (ss : List Str), vs = [.ref a] ∧ H a = some (TSO X.w a ss) ∧ Q (.int (nub ss).length) H) := by
  intro pins s σ H vs us Q I r h
  obtain ⟨a, ss, rfl, ha, q⟩ := h
  rw [Vals.ref1 r]
  obtain ⟨ob, en, p, tb, ho, hx, hd, g, nd, hm, hb, hf, hr, hl⟩ := (I.hok a _ ha).1
  have e : (en.size : Int) = (nub ss).length := by
    have := nodup_len nd (nodup_nub ss) fun x => by rw [mem_nub]; exact (hm x).symm
    rw [List.length_map, Array.length_toList] at this
    omega
  refine call_len_set ho hx hd hf (by rw [scanB] at hb; omega) ⟨.int (nub ss).length, H, I.tok _, ⟨s.toks + 1, by rw [e]⟩, q⟩
theorem strs_V {w : Dr} {G : Hp} : ∀ {xs : List V} {ds : List D} {ss : List Str}, RpAll w G xs ds → strsOf ds = some ss → xs = ss.map V.str ∧ (∀ x ∈ ss, PyData.strOk x = true)
  | _, _, _, .nil, h => by cases h; exact ⟨rfl, fun _ h => nomatch h⟩
  | _, _, _, .cons (d := d) a b, h => by
    cases a with
    | str c hc =>
      simp only [strsOf, Option.map_eq_some_iff] at h
      obtain ⟨r, h1, rfl⟩ := h
      obtain ⟨e1, e2⟩ := strs_V b h1
      refine ⟨by rw [e1]; rfl, fun x hx => ?_⟩
      rcases List.mem_cons.mp hx with rfl | hx
      · exact hc
      · exact e2 x hx
    | _ => cases h
theorem strs_seq {w : Dr} {O : Addr → Bool} {H : Hp} {v : V} {d : D} {l : List D} {ss : List Str} (h : Bp w O H v d) (e : seqOf d = some l) (e2 : strsOf l = some ss) : ∃ a, v = .ref a ∧ (H a = some (.lst (ss.map V.str)) ∨ H a = some (.tup (ss.map V.str))) ∧ ∀ x ∈ ss, PyData.strOk x = true := by
  cases d with
  | list ds =>
    cases e
    obtain ⟨a, xs, rfl, h1, r1⟩ := h.list
    obtain ⟨rfl, ok⟩ := strs_V r1 e2
    exact ⟨a, rfl, .inl h1, ok⟩
  | tuple ds =>
    cases e
    obtain ⟨a, xs, rfl, h1, r1⟩ := h.tuple
    obtain ⟨rfl, ok⟩ := strs_V r1 e2
    exact ⟨a, rfl, .inr h1, ok⟩
  | _ => cases e
/-- len(set(e)) -/
theorem s_setLen {e : Expr} {A : TK.E} {p1 p2 p3 p4 : Pos} (hc : X.calm = true) (hg : Gl X "len") (hm : X.mg "len" = none) (hg2 : Gl X "set") (hm2 : X.mg "set" = none) (ha : PE X e (rdB X.K X.mg E Γ A)) (hs : notStar e = true) :
    PE X (.Call (.Name "len" p1) [.Call (.Name "set" p2) [e] [] p3] [] p4) (rd X.K X.mg E Γ (.op1 .setLen A)) := by
  refine (pe_callB len_set hg hm PySem.boot_len (pa_cons (pe_callTy (call_set hc) hg2 hm2 (by decide +kernel) (s_arg1 ha hs) (by decide) (by decide) (star_ok hs) rfl) pa_nil rfl) (by decide) (by decide) rfl rfl).weak fun σ H Q q => ?_
  obtain ⟨w, O0, H0, O, env, st, rr, st', R, q, oo⟩ := q
  refine rdB_bind R (f := fun x => liftO (app1 .setLen x)) q oo fun d st1 v H1 R1 p1 q1 h1 o1 => ?_
  obtain ⟨y, h3, rfl, rfl⟩ := liftO_inv h1
  simp only [app1, Option.bind_eq_some_iff] at h3
  obtain ⟨l, h4, ss, h5, h6⟩ := h3
  split at h6
  · cases h6
    obtain ⟨a, rfl, ha, _⟩ := strs_seq q1 h4 h5
    exact ⟨a, ss, rfl, ha, by assumption, fun p hp => ⟨p, ss, rfl, upd_same, o1 _ (R1.post_new hp) _ (.int _)⟩⟩
  · cases h6
end
end TK
namespace TK
open PySem PySem.Spec PyProof.Rows L2
section
variable {w : Dr} {G : Hp}
theorem RpAll.zip : ∀ {xs : List V} {ds : List D}, RpAll w G xs ds → ∃ ps : List (D × V), xs = ps.map (·.2) ∧ ds = ps.map (·.1) ∧ ∀ p ∈ ps, Rp w G p.2 p.1
  | _, _, .nil => ⟨[], rfl, rfl, fun _ h => nomatch h⟩
  | _, _, .cons (v := v) (d := d) a b => by
    obtain ⟨ps, e1, e2, h⟩ := RpAll.zip b
    refine ⟨(d, v) :: ps, by rw [e1]; rfl, by rw [e2]; rfl, fun p hp => ?_⟩
    rcases List.mem_cons.mp hp with rfl | hp
    · exact a
    · exact h p hp
theorem RpAll.unzip : ∀ {ps : List (D × V)}, (∀ p ∈ ps, Rp w G p.2 p.1) → RpAll w G (ps.map (·.2)) (ps.map (·.1))
  | [], _ => .nil
  | p :: ps, h => .cons (h p List.mem_cons_self) (RpAll.unzip fun q hq => h q (List.mem_cons_of_mem _ hq))
end
section
variable {X : Cx} {E : XK} {Γ : List FnSem} {k : Nat}
theorem each_V : ∀ {ps : List (D × V)} {us : List Value}, Vals (ps.map (·.2)) us → PySem.W.EachIs (fun u (p : D × V) => RelV p.2 u) us ps
  | [], _, .nil => .nil
  | p :: ps, _, .cons r t => .cons r (each_V t)
theorem V_each : ∀ {ps : List (D × V)} {us : List Value}, PySem.W.EachIs (fun u (p : D × V) => RelV p.2 u) us ps → Vals (ps.map (·.2)) us
  | [], _, .nil => .nil
  | p :: ps, _, .cons r t => .cons r (V_each t)
theorem each_reads {h : Heap} : ∀ {ps : List (D × V)} {us : List Value} {as : List Addr}, ReadsAll h us (ps.map (·.1)) as → PySem.W.EachIs (fun u (p : D × V) => ∃ as, Reads h u p.1 as) us ps
  | [], _, _, .nil => .nil
  | p :: ps, _, _, .cons a b => .cons ⟨_, a⟩ (each_reads b)
theorem sortOk_inv {l : List D} (h : sortOk l = true) : PySem.W.AllAlike l ∧ PySem.W.Sortable l ∧ ∀ d ∈ l, dep 30 d = true := by
  unfold sortOk at h
  simp only [Bool.and_eq_true, Bool.or_eq_true, List.all_eq_true] at h
  obtain ⟨⟨h1, h2⟩, h3⟩ := h
  refine ⟨fun d hd e he => h1 d hd e he, ?_, h3⟩
  rcases h2 with h2 | h2
  · refine .inl fun d hd => ?_
    have := h2 d hd
    cases d with
    | tuple l =>
      cases l with
      | nil => cases this
      | cons x r => exact ⟨x, r, rfl⟩
    | _ => cases this
  · refine .inr fun d hd => ?_
    have := h2 d hd
    refine ⟨fun e => ?_, fun xs e => ?_⟩ <;> (subst e; cases this)
/-- sorted of a list of data -/
theorem call_sortL (hr : Room k X.A) : CallR X (.builtin "sorted") (fun vs H Q => ∃ (a : Addr) (ps : List (D × V)), vs = [.ref a] ∧ H a = some (.lst (ps.map (·.2))) ∧ DpAll X.K H (ps.map (·.2)) (ps.map (·.1)) ∧ sortOk (ps.map (·.1)) = true ∧
    ∀ p, H p = none → Q (.ref p) (upd H p (.lst ((ps.mergeSort (PySem.W.dataLe false (·.1))).map (·.2))))) := by
  intro pins s σ H vs us Q I r h
  obtain ⟨a, ps, rfl, ha, hd, hk, q⟩ := h
  obtain ⟨h1, h2, h3⟩ := sortOk_inv hk
  obtain ⟨its, rv, pl, hz⟩ := I.list (SqL.of ha)
  rw [Vals.ref1 r]
  obtain ⟨as, hR⟩ := Dp.readsAll I _ _ its hd rv
  have hz2 : ps.length ≤ sizeLine := by rw [List.length_map] at hz; exact hz
  refine PySem.W.sorted_data (R := fun u (p : D × V) => RelV p.2 u) (enc := (·.1)) (bs := ps) pl.isList (each_V rv) (each_reads hR) h1 h2 hz2 (fun p hp => ?_) fun out ho er => ?_
  · have := dep_depth (h3 p.1 (List.mem_map_of_mem hp))
    have := hr.un
    omega
  · obtain ⟨ep, he'⟩ := PyProof.Rows.sortedAll_at s.heap its out.toArray
    refine ⟨.ref _, _, I.laid (t' := s.toks) (fun _ _ => PyProof.Rows.sortedAll_old) (Nat.le_succ _) (o := .lst ((ps.mergeSort (PySem.W.dataLe false (·.1))).map (·.2))) ⟨?_, out, ep, V_each er, he'⟩, rfl, q _ (I.hok.fresh (Nat.le_succ _))⟩
    rw [List.length_map, List.length_mergeSort]
    exact hz2
theorem sort_fst (ps : List (D × V)) : (ps.mergeSort (PySem.W.dataLe false (·.1))).map (·.1) = (ps.map (·.1)).mergeSort (PySem.W.dataLe false id) := PySem.W.sort_maps _ fun _ _ _ _ => rfl
theorem sorted_rp {w : Dr} {G : Hp} {ps : List (D × V)} (h : ∀ p ∈ ps, Rp w G p.2 p.1) : RpAll w G ((ps.mergeSort (PySem.W.dataLe false (·.1))).map (·.2)) ((ps.map (·.1)).mergeSort (PySem.W.dataLe false id)) := by
  rw [← sort_fst]
  exact RpAll.unzip fun p hp => h p (by simpa using hp)
theorem bestOk_inv {l : List D} (h : bestOk l = true) : PySem.W.AlikeAll l ∧ ∀ d ∈ l, dep 30 d = true := by
  unfold bestOk at h
  simp only [Bool.and_eq_true, List.all_eq_true] at h
  obtain ⟨⟨h1, h2⟩, h3⟩ := h
  exact ⟨⟨fun d hd e he => h1 d hd e he, fun d hd e => by rw [e] at hd; cases h2 _ hd⟩, h3⟩
theorem depthAll30 {l : List D} (h : ∀ d ∈ l, dep 30 d = true) : PyData.depthAll l ≤ 30 := depthAll_le fun d hd => dep_depth (h d hd)
def rBest (K : PySem.W.Frag) (f : D → List D → D) : List V → Hp → VK → Prop := fun vs H Q => ∃ (a : Addr) (xs : List V) (d : D) (ds : List D), vs = [.ref a] ∧ H a = some (.lst xs) ∧ DpAll K H xs (d :: ds) ∧ bestOk (d :: ds) = true ∧
  ∀ (i : Nat) (v : V), xs[i]? = some v → (d :: ds)[i]? = some (f d ds) → Q v H
theorem best_at {pins : List (Addr × Obj)} {σ : L2.St} {H : Hp} {s : Shared} (I : L2.Inv X pins σ H s) {xs : List V} {its : List Value} {l : List D} {as bs : List Addr} (rv : Vals xs its) (hR : ReadsAll s.heap its l as) (hk : bestOk l = true) {i : Nat} {v : Value} {m : D} {h' : Heap} (hv : its.toArray[i]? = some v) (hm : Reads h' v m bs) (hml : m ∈ l)
    (kp : ∀ b o, s.heap.get? b = some o → h'.get? b = some o) : ∃ x, xs[i]? = some x ∧ RelV x v ∧ l[i]? = some m := by
  have hv : its[i]? = some v := by simpa using hv
  obtain ⟨bs', r1, lt, _, _⟩ := PySem.W.readsAll_at hR i v hv
  have hl := rv.length
  have hi := (List.getElem?_eq_some_iff.mp hv).1
  have hx : i < xs.length := by omega
  obtain ⟨u, e1, r2⟩ := rv.get (List.getElem?_eq_getElem hx)
  rw [hv] at e1
  cases e1
  refine ⟨xs[i], List.getElem?_eq_getElem hx, r2, ?_⟩
  have gd : l.getD i .none ∈ l := by
    rw [List.getD_eq_getElem?_getD, List.getElem?_eq_getElem lt]
    exact List.getElem_mem lt
  have al := (bestOk_inv hk).1.1 _ gd _ hml
  have := PySem.W.alike_unique _ _ v _ _ al (PySem.W.reads_keeps kp r1) hm
  rw [← this, List.getD_eq_getElem?_getD, List.getElem?_eq_getElem lt]
  rfl
theorem foldl_mem {f : D → D → Bool} : ∀ (l : List D) (x : D), l.foldl (fun a y => if f y a then y else a) x ∈ x :: l
  | [], x => List.mem_cons_self
  | y :: l, x => by
    rw [List.foldl_cons]
    have := foldl_mem (f := f) l (if f y x then y else x)
    rcases List.mem_cons.mp this with e | e
    · rw [e]
      split <;> simp
    · exact List.mem_cons_of_mem _ (List.mem_cons_of_mem _ e)
theorem call_max (hc : X.calm = true) (hr : Room k X.A) : CallR X (.builtin "max") (rBest X.K PySem.W.maxD) := by
  intro pins s σ H vs us Q I r h
  obtain ⟨a, xs, d, ds, rfl, ha, hd, hk, q⟩ := h
  obtain ⟨its, rv, pl, _⟩ := I.list (SqL.of ha)
  rw [Vals.ref1 r]
  obtain ⟨as, hR⟩ := Dp.readsAll I _ _ its hd rv
  have hu := hr.un
  have h30 := depthAll30 (bestOk_inv hk).2
  refine PySem.W.max_list_data (I.ok.hd hc) pl.isList (by simpa using hR) (bestOk_inv hk).1 (by omega) fun i v h' tk bs hv hm kp => ?_
  obtain ⟨x, e1, e2, e3⟩ := best_at I rv hR hk hv hm (foldl_mem (f := fun y a => PySem.W.dataLt a y) ds d) kp
  exact ⟨x, H, I.kept kp, e2, q i x e1 e3⟩
theorem c_max (hc : X.calm = true) (hr : Room k X.A) : CallOk X (.builtin "max") .max := by
  refine ⟨_, call_max hc hr, fun w O0 H0 O σ H env st v d x Q R bv ha q => ?_⟩
  cases d with
  | list l =>
    cases l with
    | nil => cases ha
    | cons y l =>
      simp only [app1] at ha
      split at ha
      · rename_i hk
        cases ha
        obtain ⟨p, xs, rfl, h2, r1⟩ := bv.list
        refine ⟨p, xs, y, l, rfl, h2, r1.dp hid_le (bestOk_inv hk).2, hk, fun i z e1 e2 => ?_⟩
        obtain ⟨y', e3, rp⟩ := r1.get e1
        rw [e2] at e3
        cases e3
        exact q _ H R.here rp
      · cases ha
  | _ => cases ha
end
end TK
namespace TK
open PySem PySem.Spec PyProof.Rows L2 PySem.W
section
variable {prog : Program} {w : World} {A : Around} {E : Value → Shared → Prop} {s : Shared}
theorem coll_tup {t : Addr} {us : List Value} {R : List Value → Shared → Prop} (ht : IsTup s.heap t us.toArray) (hz : us.length ≤ sizeLine)
    (fin : R us { s with heap := (s.heap.push (seqObj "list" #[] 0)).update s.heap.objs.size (Obj.mapSeq (· ++ us.toArray)) }) : wpAny (model prog w) A (collect (.ref t)) R E s := by
  obtain ⟨ob, hob, hcl, m, hdt⟩ := id ht
  have new : (s.heap.push (seqObj "list" #[] 0)).get? s.heap.objs.size = some (seqObj "list" #[] 0) := Heap.get?_push_size _ rfl
  have old : (s.heap.push (seqObj "list" #[] 0)).get? t = some ob := Heap.get?_push_of_some _ hob
  unfold collect; refine wpAny_bind (wpAny_runValue (codeAny_builtin entry_proto_collect' ?_))
  show wpAny _ _ (do again (.builtin "list.__iadd__" ⟨[← newList [], .ref t], []⟩)) _ _ s
  refine wpAny_bind (wpAny_newList (wpAny_pure ⟨Code.quiet_builtin _ (by decide +kernel), codeAny_builtin entry_list_iadd' ?_⟩)); show wpAny _ _ (Builtin.List.listExtendWith (.ref s.heap.objs.size) (.ref t) (.ref s.heap.objs.size)) _ _ { s with heap := s.heap.push (seqObj "list" #[] 0) }
  unfold Builtin.List.listExtendWith; refine wpAny_bind (wpAny_typeOf (T := "tuple") ⟨ob, old, hcl⟩ ?_)
  have tt : (Value.type "tuple" == Value.type "tuple") = true := by rfl
  rw [if_pos (by rw [tt]; simp)]; refine wpAny_bind (listItems_at old hdt ?_); refine wpAny_bind (listItems_at (xs := #[]) (n := 0) new rfl ?_)
  rw [if_neg (by simp)]; refine wpAny_bind (listUpdate_at (xs := #[]) (n := 0) new rfl ?_ (Nat.zero_le _) (by show (#[] ++ us.toArray).size ≤ sizeLine + 1; simp only [Array.size_append, List.size_toArray, List.length_nil]; omega)); refine wpAny_pure ?_
  show wpAny (model prog w) A (do let o ← load s.heap.objs.size; match o.data with | .seq xs _ => pure xs.toList | _ => unsupported "internal:collect") R E { s with heap := (s.heap.push (seqObj "list" #[] 0)).update s.heap.objs.size (Obj.mapSeq (· ++ us.toArray)) }
  refine wpAny_bind (wpAny_load (get?_update_seq new _) ?_); show wpAny _ _ (pure ((#[] : Array Value) ++ us.toArray).toList) R E _
  rw [show ((#[] : Array Value) ++ us.toArray).toList = us by simp]; exact wpAny_pure fin
theorem sortT_data {α : Type} {R : Value → α → Prop} {enc : α → PyData} {us : List Value} {bs : List α} {t : Addr} {Q : Value → Shared → Prop} (ht : IsTup s.heap t us.toArray) (e : EachIs R us bs) (er : EachIs (fun v b => ∃ as, Reads s.heap v (enc b) as) us bs) (hal : AllAlike (bs.map enc)) (hk : Sortable (bs.map enc)) (hz : bs.length ≤ sizeLine)
    (hu : ∀ b, b ∈ bs → A.units + 2 + (enc b).depth < cLine) (fin : ∀ o, o.length = bs.length → EachIs R o (bs.mergeSort (dataLe false enc)) → Q (.ref (s.heap.objs.size + 1)) { s with heap := sortedAll s.heap us (List.toArray o) }) : wpAny (model prog w) A (call (.builtin "sorted") [.ref t]) Q E s := by
  have er' : EachIs (fun v b => ∃ as, Reads (sortingHeap (copyHeap s.heap us) (s.heap.objs.size + 1) us) v (enc b) as) us bs := er.mono fun _ _ ⟨as, r⟩ => ⟨as, PyProof.Rows.Reads.keeps (fun _ _ => sorting_copy_old) r⟩
  have hz' : us.length ≤ sizeLine := by rw [e.length]; exact hz
  have S := SortsAt.data (prog := prog) (w := w) (A := A.in1.in1) (s := { s with heap := sortingHeap (copyHeap s.heap us) (s.heap.objs.size + 1) us }) (each_map (R := fun v d => ∃ as, Reads (sortingHeap (copyHeap s.heap us) (s.heap.objs.size + 1) us) v d as) enc er') hal hk (bound_map hu)
  refine Calls.call_function_entry kind_sorted plain_sorted entry_sorted (args_sorted1 _) ?_
  unfold Builtin.«sorted»; refine wpAny_bind (m := checkCount "sorted" 1 1 _) (wpAny_pure ?_); refine wpAny_bind (coll_tup ht hz' ?_); refine wpAny_bind (wpAny_newList ?_ hz')
  have sz : ((s.heap.push (seqObj "list" #[] 0)).update s.heap.objs.size (Obj.mapSeq (· ++ us.toArray))).objs.size = s.heap.objs.size + 1 := by rw [Heap.size_update, size_push']
  show wpAny _ _ _ _ _ { s with heap := copyHeap s.heap us }; rw [sz]
  refine wpAny_bind (wpAny_holding (wpAny_call_entry slot_list_sort ⟨_, copyHeap_at s.heap us, rfl⟩ entry_list_sort ?body (args_list_sort _)))
  case body =>
    show wpAny (model prog w) A.in1.in1 (Builtin.«list.sort» ⟨[.ref (s.heap.objs.size + 1)], []⟩) _ _ _
    refine list_sort_vals (s := { s with heap := copyHeap s.heap us }) (copyHeap_at s.heap us) S hz' ?_
    refine ⟨_, rfl, wpAny_pure ⟨_, rfl, fin _ (by rw [sortVals_length false rfl]; exact e.length) (sortVals_data false e er' hal)⟩⟩
end
section
variable {X : Cx} {E : XK} {Γ : List FnSem} {k : Nat}
/-- sorted of a tuple of data -/
theorem call_sortT (hr : Room k X.A) : CallR X (.builtin "sorted") (fun vs H Q => ∃ (a : Addr) (ps : List (D × V)), vs = [.ref a] ∧ SqT X.K H a (ps.map (·.2)) ∧ DpAll X.K H (ps.map (·.2)) (ps.map (·.1)) ∧ sortOk (ps.map (·.1)) = true ∧
    ∀ p, H p = none → Q (.ref p) (upd H p (.lst ((ps.mergeSort (PySem.W.dataLe false (·.1))).map (·.2))))) := by
  intro pins s σ H vs us Q I r h
  obtain ⟨a, ps, rfl, ha, hd, hk, q⟩ := h
  obtain ⟨h1, h2, h3⟩ := sortOk_inv hk
  obtain ⟨its, rv, pl, hz⟩ := I.tuple ha
  rw [Vals.ref1 r]
  obtain ⟨as, hR⟩ := Dp.readsAll I _ _ its hd rv
  have hz2 : ps.length ≤ sizeLine := by rw [List.length_map] at hz; exact hz
  refine sortT_data (R := fun u (p : D × V) => RelV p.2 u) (enc := (·.1)) (bs := ps) pl (each_V rv) (each_reads hR) h1 h2 hz2 (fun p hp => ?_) fun out ho er => ?_
  · have := dep_depth (h3 p.1 (List.mem_map_of_mem hp))
    have := hr.un
    omega
  · obtain ⟨ep, he'⟩ := PyProof.Rows.sortedAll_at s.heap its out.toArray
    refine ⟨.ref _, _, I.laid (t' := s.toks) (fun _ _ => PyProof.Rows.sortedAll_old) (Nat.le_succ _) (o := .lst ((ps.mergeSort (PySem.W.dataLe false (·.1))).map (·.2))) ⟨?_, out, ep, V_each er, he'⟩, rfl, q _ (I.hok.fresh (Nat.le_succ _))⟩
    rw [List.length_map, List.length_mergeSort]
    exact hz2
end
end TK
namespace TK
open PySem PySem.Spec PyProof.Rows L2 PySem.W
section
variable {X : Cx} {E : XK} {Γ : List FnSem} {k : Nat}
/-- what a sorted list of the values xs wants, and where it goes -/
def SrtC (K : PySem.W.Frag) (H : Hp) (Q : VK) (xs : List V) : Prop :=
  ∃ ps : List (D × V), ps.map (·.2) = xs ∧ DpAll K H (ps.map (·.2)) (ps.map (·.1)) ∧ sortOk (ps.map (·.1)) = true ∧ ∀ p, H p = none → Q (.ref p) (upd H p (.lst ((ps.mergeSort (PySem.W.dataLe false (·.1))).map (·.2))))
theorem sort_src (hc : X.calm = true) (hr : Room k X.A) {pins : List (Addr × Obj)} {s : Shared} {σ : L2.St} {H : Hp} {Q : VK} {T : String} {r d : Addr} {n : Nat} {P : Nat → Value → Prop} {OK : Heap → Prop} {xs : List V} (I : L2.Inv X pins σ H s)
    (S : KdlSrc X.prog X.w T r d n P OK) (hok : OK s.heap) (hn : n ≤ sizeLine) (hv : ∀ acc : Array Value, ItemsOf P acc n → Vals xs acc.toList) (q : SrtC X.K H Q xs) :
    wpAny (model X.prog X.w) X.A (call (.builtin "sorted") [.ref r]) (fun u s' => ∃ v H', L2.Inv X pins σ H' s' ∧ RelV v u ∧ Q v H') X.xe s := by
  obtain ⟨ps, rfl, hd, hk, q⟩ := q
  obtain ⟨h1, h2, h3⟩ := sortOk_inv hk
  refine Calls.call_function_entry kind_sorted plain_sorted entry_sorted (args_sorted1 _) ?_
  unfold Builtin.«sorted»
  refine wpAny_bind (m := checkCount "sorted" 1 1 _) (wpAny_pure ?_)
  refine wpAny_bind (PySem.W.kdu_collect (A := X.A.in1) S (I.ok.hd hc) hok hn fun h' tk acc kp hacc => ?_)
  have rv := hv acc hacc
  have hl : acc.toList.length = n := by rw [Array.length_toList]; exact hacc.1
  have hz : ps.length ≤ sizeLine := by have := rv.length; rw [List.length_map] at this; omega
  have I1 : L2.Inv X pins σ H { s with heap := h', toks := tk } := I.kept kp
  obtain ⟨as, hR⟩ := Dp.readsAll I1 _ _ acc.toList hd rv
  refine wpAny_bind (wpAny_newList ?_ (by rw [hl]; exact hn))
  have at1 : (h'.push (seqObj "list" acc.toList.toArray 0)).get? h'.objs.size = some (seqObj "list" acc.toList.toArray 0) := Heap.get?_push_size _ rfl
  show wpAny _ _ _ _ _ { s with heap := h'.push (seqObj "list" acc.toList.toArray 0), toks := tk }
  have kp2 : ∀ b o, h'.get? b = some o → (sortingHeap (h'.push (seqObj "list" acc.toList.toArray 0)) h'.objs.size acc.toList).get? b = some o := fun b o e => sortingHeap_old (Nat.ne_of_lt (Heap.lt_size e)) (Heap.get?_push_of_some _ e)
  have er := (each_reads hR).mono fun _ _ ⟨as, r⟩ => (⟨as, PyProof.Rows.Reads.keeps kp2 r⟩ : ∃ as, Reads (sortingHeap (h'.push (seqObj "list" acc.toList.toArray 0)) h'.objs.size acc.toList) _ _ as)
  have e1 := each_V rv
  have hu := hr.un
  have S1 := SortsAt.data (prog := X.prog) (w := X.w) (A := X.A.in1.in1) (s := { s with heap := sortingHeap (h'.push (seqObj "list" acc.toList.toArray 0)) h'.objs.size acc.toList, toks := tk }) (each_map (R := fun v d => ∃ as, Reads (sortingHeap (h'.push (seqObj "list" acc.toList.toArray 0)) h'.objs.size acc.toList) v d as) (fun p : D × V => p.1) er) h1 h2 (bound_map (enc := fun p : D × V => p.1) fun p hp => by
    have := dep_depth (h3 p.1 (List.mem_map_of_mem hp))
    show X.A.units + 2 + _ < cLine
    omega)
  refine wpAny_bind (wpAny_holding (wpAny_call_entry slot_list_sort ⟨_, at1, rfl⟩ entry_list_sort ?body (args_list_sort _)))
  case body =>
    show wpAny (model X.prog X.w) X.A.in1.in1 (Builtin.«list.sort» ⟨[.ref h'.objs.size], []⟩) _ _ _
    refine list_sort_vals (s := { s with heap := h'.push (seqObj "list" acc.toList.toArray 0), toks := tk }) at1 S1 (by rw [hl]; exact hn) ?_
    refine ⟨_, rfl, wpAny_pure ⟨_, rfl, ?_⟩⟩
    have eo := sortVals_data false e1 er h1
    revert eo
    generalize sortVals _ _ _ _ = out
    intro eo
    obtain ⟨c, hcc⟩ := sortedHeap_at (vs := acc.toList) (out := out.toArray) at1
    refine ⟨.ref h'.objs.size, _, I1.laid (t' := tk) (fun b u e => ?_) (Nat.le_refl _) (o := .lst ((ps.mergeSort (PySem.W.dataLe false (·.1))).map (·.2))) ⟨?_, _, c, V_each eo, hcc⟩, rfl, q _ (I1.hok.fresh (Nat.le_refl _))⟩
    · have hb : b < h'.objs.size := Heap.lt_size e
      rw [sortedHeap_old (Nat.ne_of_lt hb) (by rw [size_push']; exact Nat.lt_succ_of_lt hb)]
      exact Heap.get?_push_of_some _ e
    · rw [List.length_map, List.length_mergeSort]
      exact hz
theorem call_sortD (hc : X.calm = true) (hr : Room k X.A) : CallR X (.builtin "sorted") (fun vs H Q => ∃ a : Addr, vs = [.ref a] ∧ ((∃ kvs : List (Key × V), Rd H a (.dK kvs) ∧ SrtC X.K H Q (kvs.map fun kv => kV kv.1)) ∨
    ∃ kvs : List (List Key × V), Rd H a (.dT kvs) ∧ ∀ bs, IsKeys H kvs bs → SrtC X.K H Q (bs.map V.ref))) := by
  intro pins s σ H vs us Q I r h
  obtain ⟨a, rfl, h⟩ := h
  rw [Vals.ref1 r]
  rcases h with ⟨kvs, hd, q⟩ | ⟨kvs, hd, q⟩
  · obtain ⟨z, lo, vs, rel, dd⟩ := dk_rd I.hok hd
    obtain ⟨ep, hat⟩ := dd.dictAt
    have ek : (kvs.map fun kv => kV kv.1) = vs.map fun p => kV p.1 := by
      have e := congrArg (List.map kV) rel.keys
      rw [List.map_map, List.map_map] at e
      exact e
    refine sort_src hc hr I (PySem.W.kdl_dict (knd := mixKind X.prog X.w) (kvs := vs) (ep := ep) lo) hat (by rw [← rel.length]; exact z) (fun acc hacc => ?_) q
    rw [ek]
    exact keys_at (by rw [Array.length_toList]; exact hacc.1) fun j v e => hacc.2 j v (by rw [← Array.getElem?_toList]; exact e)
  · obtain ⟨z, hs, ks, pr, o, es, ep, ho, hx, hdt, he, hn⟩ := (show ObjOk X.prog X.w H s.heap a (.dT kvs) from hd.ok I.hok)
    have l1 : es.size = ks.length := size_of_entries he
    have l2 : kvs.length = ks.length := Paired.length pr
    refine sort_src hc hr I (kdl_raw hs hx hdt) ho (by omega) (fun acc hacc => ?_) (q _ (isKeys_of pr))
    have ea : acc.toList = ks.map fun x => Value.ref x.2.1 := by
      have hl : acc.toList.length = ks.length := by rw [Array.length_toList, hacc.1]; exact l1
      apply List.ext_getElem?
      intro j
      rw [List.getElem?_map]
      cases hj : acc.toList[j]? with
      | none =>
        have h1 := List.getElem?_eq_none_iff.mp hj
        rw [List.getElem?_eq_none (by omega)]
        all_goals rfl
      | some v =>
        obtain ⟨en, hen, hv⟩ := hacc.2 j v (by rw [← Array.getElem?_toList]; exact hj)
        have qe := entry_at he j
        rw [hen] at qe
        cases hb : ks[j]? with
        | none =>
          rw [hb] at qe
          exact nomatch (show some en = none from qe)
        | some b =>
          rw [hb] at qe
          have e2 : en = entryOfKey (tupleKind (mixKind X.prog X.w)) b := Option.some.inj qe
          rw [hv, e2]
          all_goals rfl
    have eb : acc.toList = (ks.map fun x => x.2.1).map Value.ref := by rw [ea, List.map_map]; all_goals rfl
    rw [eb]
    exact vals_refs _
end
section
variable {w : Dr} {G H : Hp} {O : Addr → Bool}
theorem rp_keyL : ∀ {k : List Key}, k.all keyS = true → RpAll w G (k.map kV) (k.map keyD)
  | [], _ => .nil
  | k :: r, h => by
    rw [List.all_cons, Bool.and_eq_true] at h
    refine .cons ?_ (rp_keyL h.2)
    cases k with
    | inl i => exact .int i
    | inr x => exact .str x h.1
theorem RpKV.keysR : ∀ {kvs : List (Key × V)} {l : List (D × D)}, RpKV w G kvs l → RpAll w G (kvs.map fun kv => kV kv.1) (l.map (·.1))
  | _, _, .nil => .nil
  | _, _, .cons (k := k) a _ c => by
    refine .cons ?_ c.keysR
    cases k with
    | inl i => exact .int i
    | inr x => exact .str x a
theorem RpKT.keysR {G : Hp} (hno : ∀ b xs, H b = some (.tup xs) → hid H O b = some (.tup xs)) : ∀ {kvs : List (List Key × V)} {l : List (D × D)} {bs : List Addr}, RpKT w G kvs l → IsKeys H kvs bs → RpAll w (hid H O) (bs.map V.ref) (l.map (·.1))
  | _, _, _, .nil, q => by cases q; exact .nil
  | _, _, _, .cons a _ c, q => by
    cases q with
    | cons h t => exact .cons (.tup (hno _ _ h) (rp_keyL a)) (RpKT.keysR hno c t)
end
theorem Rel.tupNo {K : PySem.W.Frag} {w : Dr} {O0 O : Addr → Bool} {H0 H : Hp} {σ : L2.St} {env : Env} {st : DSt} (R : Rel K w O0 H0 O σ H env st) (b : Addr) (xs : List V) (h : H b = some (.tup xs)) : hid H O b = some (.tup xs) := by
  cases e : O b with
  | true =>
    have := R.alc b e
    rw [h] at this
    exact this.elim
  | false => rw [hid_of e]; exact h
section
variable {X : Cx} {E : XK} {Γ : List FnSem} {k : Nat}
theorem c_sorted (hc : X.calm = true) (hr : Room k X.A) : CallOk X (.builtin "sorted") .sorted := by
  refine ⟨_, ((call_sortL hr).or (call_sortT hr)).or (call_sortD hc hr), fun w O0 H0 O σ H env st v d x Q R bv ha q => ?_⟩
  cases d with
  | list l =>
    simp only [app1, Option.map_eq_some_iff] at ha
    obtain ⟨l', h1, rfl⟩ := ha
    unfold sortD at h1
    split at h1
    · rename_i hk
      cases h1
      obtain ⟨p, xs, rfl, h2, r1⟩ := bv.list
      obtain ⟨ps, rfl, rfl, hp⟩ := r1.zip
      obtain ⟨_, _, h3⟩ := sortOk_inv hk
      exact .inl (.inl ⟨p, ps, rfl, h2, r1.dp hid_le h3, hk, fun z hz => q _ _ (R.post_new hz) (rp_newL R hz (sorted_rp hp))⟩)
    · cases h1
  | tuple l =>
    simp only [app1, Option.map_eq_some_iff] at ha
    obtain ⟨l', h1, rfl⟩ := ha
    unfold sortD at h1
    split at h1
    · rename_i hk
      cases h1
      obtain ⟨p, xs, rfl, h2, r1⟩ := bv.tuple
      obtain ⟨ps, rfl, rfl, hp⟩ := r1.zip
      obtain ⟨_, _, h3⟩ := sortOk_inv hk
      exact .inl (.inr ⟨p, ps, rfl, SqT.of h2, r1.dp hid_le h3, hk, fun z hz => q _ _ (R.post_new hz) (rp_newL R hz (sorted_rp hp))⟩)
    · cases h1
  | dict l =>
    simp only [app1, Option.bind_eq_some_iff, Option.map_eq_some_iff] at ha
    obtain ⟨⟨t, l0⟩, h0, l', h1, rfl⟩ := ha
    obtain ⟨a, rfl, dk⟩ := bv.dict h0
    have key : ∀ {xs : List V}, RpAll w (hid H O) xs (l0.map (·.1)) → SrtC X.K H Q xs := fun {xs} r1 => by
      unfold sortD at h1
      split at h1
      · rename_i hk
        cases h1
        obtain ⟨ps, rfl, e2, hp⟩ := r1.zip
        obtain ⟨_, _, h3⟩ := sortOk_inv hk
        refine ⟨ps, rfl, by rw [← e2]; exact r1.dp hid_le h3, by rw [← e2]; exact hk, fun z hz => q _ _ (R.post_new hz) (rp_newL R hz ?_)⟩
        have e3 : l0.map (fun x => x.1) = ps.map (fun x => x.1) := e2
        show RpAll w (hid H O) _ ((l0.map (fun x => x.1)).mergeSort (PySem.W.dataLe false id))
        rw [e3]
        exact sorted_rp hp
      · cases h1
    cases dk with
    | k a1 b1 => exact .inr ⟨a, rfl, .inl ⟨_, a1, key b1.keysR⟩⟩
    | t a1 b1 => exact .inr ⟨a, rfl, .inr ⟨_, a1, fun bs hb => key (b1.keysR (fun b xs => R.tupNo b xs) hb)⟩⟩
  | _ => cases ha
end
end TK
namespace TK
open PySem PySem.Spec PyProof.Rows L2
section
variable {K : PySem.W.Frag} {w : Dr} {O0 O : Addr → Bool} {H0 H H' : Hp} {σ : L2.St} {env : Env} {st st' : DSt}
theorem Rel.setVal (R : Rel K w O0 H0 O σ H env st) {i : Nat} {v : V} {d : D} (hi : i < env.length) (rp : Rp w (hid H O) v d) : Rel K w O0 H0 O (σ.set i (some v)) H (env.set i (.val d)) st := by
  have hs : i < σ.length := by rw [← R.len]; exact hi
  refine ⟨R.ext, R.sub, R.alc0, R.alc, R.new, R.ops, R.sts, R.scr, by rw [List.length_set, List.length_set]; exact R.len, fun j d' h => ?_, fun j d' h => ?_, fun j k p di dj h1 h2 h3 h4 => ?_⟩
  · by_cases e : i = j
    · subst e
      rw [List.getElem?_set_self hi] at h
      cases h
      exact ⟨v, List.getElem?_set_self hs, rp⟩
    · rw [List.getElem?_set_ne e] at h ⊢
      exact R.val j d' h
  · by_cases e : i = j
    · subst e
      rw [List.getElem?_set_self hi] at h
      cases h
    · rw [List.getElem?_set_ne e] at h ⊢
      exact R.own j d' h
  · have e1 : i ≠ j := fun e => by
      subst e
      rw [List.getElem?_set_self hi] at h1
      cases h1
    have e2 : i ≠ k := fun e => by
      subst e
      rw [List.getElem?_set_self hi] at h2
      cases h2
    rw [List.getElem?_set_ne e1] at h1 h3
    rw [List.getElem?_set_ne e2] at h2 h4
    exact R.inj j k p di dj h1 h2 h3 h4
theorem Rel.setNo (R : Rel K w O0 H0 O σ H env st) (i : Nat) : Rel K w O0 H0 O (σ.set i none) H (env.set i .no) st := by
  refine ⟨R.ext, R.sub, R.alc0, R.alc, R.new, R.ops, R.sts, R.scr, by rw [List.length_set, List.length_set]; exact R.len, fun j d' h => ?_, fun j d' h => ?_, fun j k p di dj h1 h2 h3 h4 => ?_⟩
  · have e : i ≠ j := fun e => by
      subst e
      have hi : i < env.length := by
        have := (List.getElem?_eq_some_iff.mp h).1
        rw [List.length_set] at this
        exact this
      rw [List.getElem?_set_self hi] at h
      cases h
    rw [List.getElem?_set_ne e] at h ⊢
    exact R.val j d' h
  · have e : i ≠ j := fun e => by
      subst e
      have hi : i < env.length := by
        have := (List.getElem?_eq_some_iff.mp h).1
        rw [List.length_set] at this
        exact this
      rw [List.getElem?_set_self hi] at h
      cases h
    rw [List.getElem?_set_ne e] at h ⊢
    exact R.own j d' h
  · have ne : ∀ {m d}, (env.set i Slot.no)[m]? = some (Slot.own d) → i ≠ m := fun {m d} h e => by
      subst e
      have hi : i < env.length := by
        have := (List.getElem?_eq_some_iff.mp h).1
        rw [List.length_set] at this
        exact this
      rw [List.getElem?_set_self hi] at h
      cases h
    have e1 := ne h1
    have e2 := ne h2
    rw [List.getElem?_set_ne e1] at h1 h3
    rw [List.getElem?_set_ne e2] at h2 h4
    exact R.inj j k p di dj h1 h2 h3 h4
theorem Rel.wipe (R : Rel K w O0 H0 O σ H env st) : ∀ vs : List Nat, Rel K w O0 H0 O (L2.wipe σ vs) H (wipeE env vs) st
  | [] => R
  | v :: vs => (R.wipe vs).setNo v
theorem Rel.ps_ne (R : Rel K w O0 H0 O σ H env st) {p : Addr} (h : H p = none) : p ≠ w.ps := fun e => by
  rw [e, R.sts] at h; cases h
theorem Rel.none0 (R : Rel K w O0 H0 O σ H env st) {p : Addr} (h : H p = none) : H0 p = none := by
  cases e : H0 p with
  | none => rfl
  | some o =>
    cases z : O0 p with
    | true =>
      have := R.ext.own p o z (R.ps_ne h) e
      rw [h] at this; cases this
    | false =>
      obtain ⟨o', e', _⟩ := R.ext.rd p o z e
      rw [h] at e'; cases e'
def addO (O : Addr → Bool) (D : Addr) : Addr → Bool := fun a => O a || decide (a = D)
theorem addO_self {O : Addr → Bool} {D : Addr} : addO O D D = true := by simp [addO]
theorem addO_of {O : Addr → Bool} {D a : Addr} (h : O a = true) : addO O D a = true := by simp [addO, h]
theorem addO_ne {O : Addr → Bool} {D a : Addr} (h : a ≠ D) : addO O D a = O a := by simp [addO, h]
/-- a new object, hidden -/
theorem Rel.hide (R : Rel K w O0 H0 O σ H env st) {D : Addr} {o : HO} (h : H D = none) (hl : Al (some o) := by exact trivial) : Rel K w O0 H0 (addO O D) σ (upd H D o) env st := by
  have oD := R.free h
  have le : Le (hid H O) (hid (upd H D o) (addO O D)) := fun a u e => by
    obtain ⟨e1, e2⟩ := hid_some e
    have ne : a ≠ D := ne_of_none e2 h
    exact ⟨u, by rw [hid_of (by rw [addO_ne ne]; exact e1), upd_ne ne]; exact e2, .refl u⟩
  refine ⟨⟨fun b u z n e => ?_, fun b u z e => ?_⟩, fun a z => addO_of (R.sub a z), R.alc0, fun a z => ?_, fun a z z0 => ?_, R.ops, ?_, le.sqL R.scr, R.len, fun i d e => ?_, fun i d e => ?_, R.inj⟩
  · have := R.ext.own b u z n e
    rw [upd_ne (ne_of_none this h)]; exact this
  · obtain ⟨u', e1, e2⟩ := R.ext.rd b u z e
    exact ⟨u', by rw [upd_ne (ne_of_none e1 h)]; exact e1, e2⟩
  · by_cases e : a = D
    · rw [e, upd_same]; exact hl
    · rw [addO_ne e] at z
      rw [upd_ne e]
      exact R.alc a z
  · by_cases e : a = D
    · rw [e]; exact R.none0 h
    · rw [addO_ne e] at z
      exact R.new a z z0
  · rw [upd_ne (R.ps_ne h).symm]; exact R.sts
  · obtain ⟨v, e1, e2⟩ := R.val i d e
    exact ⟨v, e1, e2.mono le⟩
  · obtain ⟨p, e1, e2, e3, e4⟩ := R.own i d e
    have ne : p ≠ D := fun q => by rw [q, oD] at e2; cases e2
    refine ⟨p, e1, addO_of e2, e3, ?_⟩
    cases e4 with
    | lst a b => exact .lst (by rw [upd_ne ne]; exact a) (b.mono le)
    | dK a b => exact .dK (by rw [upd_ne ne]; exact a) (b.mono le)
    | dT a b => exact .dT (by rw [upd_ne ne]; exact a) (b.mono le)
/-- the hidden object that no name owns is written -/
theorem Rel.write (R : Rel K w O0 H0 O σ H env st) {p0 : Addr} {o : HO} (hD : O p0 = true) (h0 : O0 p0 = false) (hw : ∀ (i : Nat) (d : D), env[i]? = some (Slot.own d) → σ[i]? ≠ some (some (.ref p0))) (hl : Al (some o) := by exact trivial) : Rel K w O0 H0 O σ (upd H p0 o) env st := by
  have le : Le (hid H O) (hid (upd H p0 o) O) := fun a u e => by
    obtain ⟨e1, e2⟩ := hid_some e
    have ne : a ≠ p0 := fun q => by rw [q, hD] at e1; cases e1
    exact ⟨u, by rw [hid_of e1, upd_ne ne]; exact e2, .refl u⟩
  have n0 := R.new p0 hD h0
  refine ⟨⟨fun b u z n e => ?_, fun b u z e => ?_⟩, R.sub, R.alc0, fun a z => ?_, R.new, R.ops, ?_, le.sqL R.scr, R.len, fun i d e => ?_, fun i d e => ?_, R.inj⟩
  · have ne : b ≠ p0 := fun q => by rw [q, n0] at e; cases e
    rw [upd_ne ne]; exact R.ext.own b u z n e
  · have ne : b ≠ p0 := fun q => by rw [q, n0] at e; cases e
    obtain ⟨u', e1, e2⟩ := R.ext.rd b u z e
    exact ⟨u', by rw [upd_ne ne]; exact e1, e2⟩
  · by_cases e : a = p0
    · rw [e, upd_same]; exact hl
    · rw [upd_ne e]; exact R.alc a z
  · rw [upd_ne (R.psne h0).symm]; exact R.sts
  · obtain ⟨v, e1, e2⟩ := R.val i d e
    exact ⟨v, e1, e2.mono le⟩
  · obtain ⟨p, e1, e2, e3, e4⟩ := R.own i d e
    have ne : p ≠ p0 := fun q => hw i d e (by rw [← q]; exact e1)
    refine ⟨p, e1, e2, e3, ?_⟩
    cases e4 with
    | lst a b => exact .lst (by rw [upd_ne ne]; exact a) (b.mono le)
    | dK a b => exact .dK (by rw [upd_ne ne]; exact a) (b.mono le)
    | dT a b => exact .dT (by rw [upd_ne ne]; exact a) (b.mono le)
end
mutual
def slotsT : Tg → List Nat
  | .n i => [i]
  | .t ts => slotsTs ts
def slotsTs : List Tg → List Nat
  | [] => []
  | t :: ts => slotsT t ++ slotsTs ts
end
/-- σ' is σ but for the slots in l -/
def But (l : List Nat) (σ σ' : L2.St) : Prop := σ'.length = σ.length ∧ ∀ i, i ∉ l → σ'[i]? = σ[i]?
theorem But.refl (σ : L2.St) : But [] σ σ := ⟨rfl, fun _ _ => rfl⟩
theorem But.trans {l m : List Nat} {σ σ1 σ2 : L2.St} (a : But l σ σ1) (b : But m σ1 σ2) : But (l ++ m) σ σ2 :=
  ⟨b.1.trans a.1, fun i h => (b.2 i fun z => h (List.mem_append_right _ z)).trans (a.2 i fun z => h (List.mem_append_left _ z))⟩
def rdG (K : PySem.W.Frag) (tg : Tg) : TG := fun v σ H Q => ∃ w O0 H0 O env st d env', Rel K w O0 H0 O σ H env st ∧ Rp w (hid H O) v d ∧ asgT tg d env = some env' ∧ ∀ σ', Rel K w O0 H0 O σ' H env' st → But (slotsT tg) σ σ' → Q σ' H
def rdGs (K : PySem.W.Frag) (ts : List Tg) : TGs := fun vs σ H Q => ∃ w O0 H0 O env st ds env', Rel K w O0 H0 O σ H env st ∧ RpAll w (hid H O) vs ds ∧ asgTs ts ds env = some env' ∧ ∀ σ', Rel K w O0 H0 O σ' H env' st → But (slotsTs ts) σ σ' → Q σ' H
theorem _root_.L2.PG.weak {X : Cx} {e : Expr} {t t' : TG} (h : PG X e t) (i : ∀ v σ H Q, t' v σ H Q → t v σ H Q) : PG X e t' := ⟨fun pins s σ H v u Q I r q => h.run pins s σ H v u Q I r (i v σ H Q q)⟩
theorem _root_.L2.PGs.weak {X : Cx} {e : List Expr} {t t' : TGs} (h : PGs X e t) (i : ∀ v σ H Q, t' v σ H Q → t v σ H Q) : PGs X e t' := ⟨fun pins s σ H v u Q I r q => h.run pins s σ H v u Q I r (i v σ H Q q)⟩
theorem _root_.L2.PG.or {X : Cx} {e : Expr} {t t' : TG} (h : PG X e t) (h' : PG X e t') : PG X e (fun v σ H Q => t v σ H Q ∨ t' v σ H Q) := ⟨fun pins s σ H v u Q I r q => q.elim (h.run pins s σ H v u Q I r) (h'.run pins s σ H v u Q I r)⟩
theorem asg_ok {e : Expr} {es : List Expr} {env : PySem.Env} (h : notStar e = true) : assignEach (e :: es) env = (false, assign e env) :: assignEach es env := by
  cases e <;> first | rfl | cases h
theorem asg_len {env : PySem.Env} : ∀ {es : List Expr}, es.all notStar = true → (assignEach es env).length = es.length ∧ (assignEach es env).findIdx? (·.1) = none
  | [], _ => ⟨rfl, rfl⟩
  | e :: es, h => by
    rw [List.all_cons, Bool.and_eq_true] at h
    obtain ⟨h1, h2⟩ := asg_len (env := env) h.2
    rw [asg_ok h.1]
    refine ⟨by rw [List.length_cons, List.length_cons, h1], ?_⟩
    rw [List.findIdx?_cons, h2]
    rfl
section
variable {X : Cx} {E : XK} {Γ : List FnSem} {k : Nat}
theorem g_name {i : Nat} {x : Str} {pos : Pos} (hN : X.N.Nodup) (hi : X.N[i]? = some x) (hx : Loc X.env.scope x) (hf : X.fn x = true ∨ X.env.scope.names.lookup x = some .local) : PG X (.Name x pos) (rdG X.K (.n i)) := by
  refine (pg_name hN hi hx hf).weak fun v σ H Q q => ?_
  obtain ⟨w, O0, H0, O, env, st, d, env', R, rp, e, q⟩ := q
  simp only [asgT] at e
  split at e
  · cases e
    refine q _ (R.setVal (by assumption) rp) ⟨List.length_set, fun j h => ?_⟩
    exact List.getElem?_set_ne (fun e => h (by rw [e]; simp [slotsT]))
  · cases e
theorem g_nil : PGs X [] (rdGs X.K []) := by
  refine pgs_nil.weak fun v σ H Q q => ?_
  obtain ⟨w, O0, H0, O, env, st, d, env', R, rp, e, q⟩ := q
  cases rp with
  | nil =>
    cases e
    exact ⟨rfl, q _ R (But.refl σ)⟩
  | cons _ _ => cases e
theorem g_cons {e : Expr} {es : List Expr} {t : Tg} {ts : List Tg} (h1 : PG X e (rdG X.K t)) (h2 : PGs X es (rdGs X.K ts)) (hs : notStar e = true) : PGs X (e :: es) (rdGs X.K (t :: ts)) := by
  refine (pgs_cons h1 h2 (by rw [asg_ok hs]; rfl)).weak fun v σ H Q q => ?_
  obtain ⟨w, O0, H0, O, env, st, d, env', R, rp, e, q⟩ := q
  cases rp with
  | nil => cases e
  | cons a b =>
    simp only [asgTs, Option.bind_eq_some_iff] at e
    obtain ⟨env1, e1, e2⟩ := e
    refine ⟨_, _, rfl, w, O0, H0, O, env, st, _, env1, R, a, e1, fun σ' R1 b1 => ?_⟩
    refine ⟨w, O0, H0, O, env1, st, _, env', R1, b, e2, fun σ2 R2 b2 => ?_⟩
    exact q σ2 R2 (b1.trans b2)
theorem g_tup {es : List Expr} {ts : List Tg} {j : Nat} {pos : Pos} (hc : X.calm = true) (h : PGs X es (rdGs X.K ts)) (hs : es.all notStar = true) (hl : es.length = ts.length) : PG X (.Tuple es j pos) (rdG X.K (.t ts)) := by
  obtain ⟨l1, l2⟩ := asg_len (env := X.env) hs
  refine ((pg_tup (n := ts.length) hc h (by rw [l1, hl]) l2).or (pg_unl (n := ts.length) hc h (by rw [l1, hl]) l2)).weak fun v σ H Q q => ?_
  obtain ⟨w, O0, H0, O, env, st, d, env', R, rp, e, q⟩ := q
  have asl : ∀ {ts : List Tg} {ds : List D} {env env' : Env}, asgTs ts ds env = some env' → ds.length = ts.length := by
    intro ts
    induction ts with
    | nil => intro ds env env' h; cases ds <;> first | rfl | cases h
    | cons t ts ih =>
      intro ds env env' h
      cases ds with
      | nil => cases h
      | cons d ds =>
        simp only [asgTs, Option.bind_eq_some_iff] at h
        obtain ⟨_, _, h2⟩ := h
        rw [List.length_cons, List.length_cons, ih h2]
  cases rp with
  | tup a b =>
    have e : asgTs ts _ env = some env' := e
    exact .inl ⟨_, _, rfl, SqT.of (hid_some a).2, by rw [b.length]; exact asl e, w, O0, H0, O, env, st, _, env', R, b, e, q⟩
  | lst a b =>
    have e : asgTs ts _ env = some env' := e
    exact .inr ⟨_, _, rfl, SqL.of (hid_some a).2, by rw [b.length]; exact asl e, w, O0, H0, O, env, st, _, env', R, b, e, q⟩
  | _ => cases e
end
end TK
namespace TK
open PySem PySem.Spec PyProof.Rows L2
def SqS : Bool → PySem.W.Frag → Hp → Addr → List V → Prop
  | true, K, H, a, xs => SqT K H a xs
  | false, K, H, a, xs => SqL K H a xs
def IsSq : Bool → Heap → Addr → Array Value → Prop
  | true, h, a, v => h.IsTuple a v
  | false, h, a, v => h.IsList a v
def ItAt : Bool → Heap → Addr → Addr → Nat → Prop
  | true, h, it, a, i => h.IsTupleIter it a i
  | false, h, it, a, i => h.IsListIter it a i
def itObj : Bool → Addr → Obj
  | true, a => { cls := .type "tuple_iterator", data := .fields #[.ref a, .int 0 0] }
  | false, a => { cls := .type "list_iterator", data := .fields #[.ref a, .int 0 0] }
section
variable {t : Bool} {h h' : Heap} {it a : Addr} {i : Nat} {items : Array Value}
theorem draws_s {prog : Program} {w : World} {A : Around} (hh : A.handled = none) (t : Bool) (it a : Addr) (hne : a ≠ it) (items : Array Value) : Draws prog w A it [it, a] items.size (fun i v => items[i]? = some v) (fun i h => ItAt t h it a i ∧ IsSq t h a items) := by
  cases t
  · exact Draws.list hh it a hne items
  · exact Draws.tuple hh it a hne items
theorem begins_s (t : Bool) (a : Addr) (items : Array Value) : Begins (.ref a) (itObj t a) fun h => IsSq t h a items := by
  cases t
  · exact begins_list a items
  · exact begins_tuple a items
theorem itAt0 (e : h.get? it = some (itObj t a)) : ItAt t h it a 0 := by
  cases t <;> exact ⟨_, e, rfl, rfl⟩
theorem ItAt.at (x : ItAt t h it a i) (k : ∀ o, h.get? it = some o → h'.get? it = some o) : ItAt t h' it a i := by
  cases t
  · obtain ⟨o, e, c, d⟩ := x; exact ⟨o, k o e, c, d⟩
  · obtain ⟨o, e, c, d⟩ := x; exact ⟨o, k o e, c, d⟩
theorem ItAt.obj (x : ItAt t h it a i) : ∃ o, h.get? it = some o ∧ ∀ v, o.data ≠ .cell v := by
  cases t
  · obtain ⟨o, e, c, d⟩ := x; exact ⟨o, e, fun v q => by rw [d] at q; cases q⟩
  · obtain ⟨o, e, c, d⟩ := x; exact ⟨o, e, fun v q => by rw [d] at q; cases q⟩
theorem IsSq.lt (x : IsSq t h a items) : a < h.objs.size := by
  cases t
  · obtain ⟨o, e, _⟩ := x; exact Heap.lt_size e
  · obtain ⟨o, e, _⟩ := x; exact Heap.lt_size e
end
section
variable {X : Cx} {pins : List (Addr × Obj)} {σ : L2.St} {H : Hp} {s : Shared} {t : Bool} {a : Addr} {xs ys : List V}
theorem sq_inv (I : L2.Inv X pins σ H s) (h : SqS t X.K H a xs) : ∃ its : List Value, Vals xs its ∧ IsSq t s.heap a its.toArray ∧ xs.length ≤ sizeLine := by
  cases t
  · obtain ⟨its, r, p, z⟩ := I.list h; exact ⟨its, r, p.isList, z⟩
  · obtain ⟨its, r, p, z⟩ := I.tuple h; exact ⟨its, r, p, z⟩
theorem sq_inj (I : L2.Inv X pins σ H s) (h : SqS t X.K H a xs) (h' : SqS t X.K H a ys) : xs = ys := by
  cases t
  · exact I.list_inj h h'
  · exact I.tuple_inj h h'
end
/-- a Turn from what GoesN tells, each item a new tuple -/
theorem turn_of {P : Program} {w : World} {K : PySem.W.Frag} {tg : Expr} {J : It} {fp : List Addr} {it : Addr} {tn : Nat → Heap → Prop} (mem : it ∈ fp)
    (obj : ∀ i h, tn i h → ∀ b ∈ fp, ∃ o, h.get? b = some o ∧ ∀ v, o.data ≠ .cell v)
    (keep : ∀ i h h', tn i h → (∀ b ∈ fp, ∀ o, h.get? b = some o → h'.get? b = some o) → tn i h')
    (item : ∀ (X : Cx), X.prog = P → X.w = w → X.K = K → X.calm = true → ∀ (i : Nat) (pins : List (Addr × Obj)) (s : Shared) (σ : L2.St) (H : Hp), L2.Inv X pins σ H s → tn i s.heap → J.go i H →
      ∃ (fp' wr : List Addr) (n : Nat) (Y : Nat → Heap → Value → Heap → Prop) (St : Nat → Heap → Prop), GoesN P w X.A tg it fp' wr n Y St ∧ (∀ b ∈ wr, b ∈ fp) ∧ i < n ∧ St i s.heap ∧ (∀ h', St (i + 1) h' → tn (i + 1) h') ∧
        ∀ v h', Y i s.heap v h' → ∃ (T : Addr) (vs : List V) (us : List Value), v = .ref T ∧ s.heap.objs.size ≤ T ∧ Vals vs us ∧ h'.IsTuple T us.toArray ∧ vs.length ≤ sizeLine ∧ (H T = none → J.yld i H (.ref T) (upd H T (.tup vs))))
    (done : ∀ (X : Cx), X.prog = P → X.w = w → X.K = K → X.calm = true → ∀ (i : Nat) (pins : List (Addr × Obj)) (s : Shared) (σ : L2.St) (H : Hp), L2.Inv X pins σ H s → tn i s.heap → J.stop i H →
      ∃ (fp' wr : List Addr) (Y : Nat → Heap → Value → Heap → Prop) (St : Nat → Heap → Prop), GoesN P w X.A tg it fp' wr i Y St ∧ (∀ b ∈ wr, b ∈ fp) ∧ St i s.heap)
    (self : ∀ (A : Around) (i : Nat) (s : Shared) (Q : Value → Shared → Prop) (E : Value → Shared → Prop), tn i s.heap → Q (.ref it) s → wpAny (model P w) A (pyIter (.ref it)) Q E s) : Turn P w K tg J fp it tn where
  mem := mem
  obj := obj
  keep := keep
  item := by
    intro X hP hw hK hc i pins s σ H E I hf st hg
    obtain ⟨fp', wr, n, Y, St, W, sub, hi, hst, htn, hY⟩ := item X hP hw hK hc i pins s σ H I st hg
    subst hP hw hK
    refine W.goes i s (fun v s2 => ∃ x H', L2.Inv X pins σ H' s2 ∧ RelV x v ∧ J.yld i H x H' ∧ tn (i + 1) s2.heap ∧ ∀ b ∈ fp, H' b = none) E hi hst fun v h' tk hy st' hk htk => ?_
    obtain ⟨T, vs, us, rfl, hT, rv, tup, hz, yl⟩ := hY v h' hy
    have new : ObjOk X.prog X.w (upd H T (.tup vs)) h' T (.tup vs) := ⟨hz, us, rv, tup⟩
    have I1 : L2.Inv X pins σ (upd H T (.tup vs)) { s with heap := h', toks := tk } := I.turnedNew (ch := wr) hk (fun b hb => hf b (sub b hb)) hT new
    refine ⟨.ref T, _, I1, rfl, yl (I.hok.fresh hT), htn h' st', fun b hb => ?_⟩
    obtain ⟨o, e, _⟩ := obj i s.heap st b hb
    rw [upd_ne (Nat.ne_of_lt (Nat.lt_of_lt_of_le (Heap.lt_size e) hT))]
    exact (hf b hb).1
  done := by
    intro X hP hw hK hc i pins s σ H E I hf st hg
    obtain ⟨fp', wr, Y, St, W, sub, hst⟩ := done X hP hw hK hc i pins s σ H I st hg
    subst hP hw hK
    exact W.stops s (fun s1 => L2.Inv X pins σ H s1) E hst fun h' tk hk htk => I.turnedL (ch := wr) hk fun b hb => hf b (sub b hb)
  self := self
def ItzS (K : PySem.W.Frag) (t1 : Bool) (a : Addr) (t2 : Bool) (b : Addr) : It :=
  ⟨fun i H => ∃ (xs ys : List V) (x y : V), SqS t1 K H a xs ∧ SqS t2 K H b ys ∧ xs[i]? = some x ∧ ys[i]? = some y,
    fun i H v H' => ∃ T x y, v = .ref T ∧ H T = none ∧ H' = upd H T (.tup [x, y]) ∧ (∀ xs, SqS t1 K H a xs → xs[i]? = some x) ∧ ∀ ys, SqS t2 K H b ys → ys[i]? = some y,
    fun i H => ∃ xs ys : List V, SqS t1 K H a xs ∧ SqS t2 K H b ys ∧ min xs.length ys.length = i⟩
def tnZ (t1 : Bool) (a : Addr) (t2 : Bool) (b z TI TO i1 i2 : Addr) (i : Nat) (h : Heap) : Prop := IsZip h z TI TO .none ∧ IsTupOf2 h TI (.ref i1) (.ref i2) ∧ (∃ x y, IsTupOf2 h TO x y) ∧ ItAt t1 h i1 a i ∧ ItAt t2 h i2 b i
theorem turn_zipS {P : Program} {w : World} {K : PySem.W.Frag} {elts : List Expr} {kk : Nat} {tpos : Pos} {t1 t2 : Bool} {a b z TI TO i1 i2 : Addr} (S : ZipSep2 z TI TO i1 i2 [i1, a] [i2, b]) (n1 : a ≠ i1) (n2 : b ≠ i2) :
    Turn P w K (.Tuple elts kk tpos) (ItzS K t1 a t2 b) [z, TI, TO, i1, i2] z (tnZ t1 a t2 b z TI TO i1 i2) := by
  refine turn_of (by simp) (fun i h st c hc => ?_) (fun i h h' st k => ?_) ?_ ?_ fun A i s Q E st h => wpAny_pyIter_zip st.1 h
  · obtain ⟨hz, hTI, ⟨x, y, hTO⟩, h1, h2⟩ := st
    have e' : c = z ∨ c = TI ∨ c = TO ∨ c = i1 ∨ c = i2 := by simpa using hc
    rcases e' with q | q | q | q | q
    · rw [q]; exact ⟨_, hz, fun v q => nomatch q⟩
    · rw [q]; exact ⟨_, hTI, fun v q => nomatch q⟩
    · rw [q]; exact ⟨_, hTO, fun v q => nomatch q⟩
    · rw [q]; exact h1.obj
    · rw [q]; exact h2.obj
  · obtain ⟨hz, hTI, ⟨x, y, hTO⟩, h1, h2⟩ := st
    exact ⟨k z (by simp) _ hz, k TI (by simp) _ hTI, ⟨x, y, k TO (by simp) _ hTO⟩, h1.at fun o q => k i1 (by simp) o q, h2.at fun o q => k i2 (by simp) o q⟩
  · intro X hP hw hK hc i pins s σ H I st hg
    subst hP hw hK
    obtain ⟨hz, hTI, hTO, h1, h2⟩ := st
    obtain ⟨xs, ys, x, y, hqx, hqy, hx, hy⟩ := hg
    obtain ⟨its, rv, p, _⟩ := sq_inv I hqx
    obtain ⟨its2, rv2, p2, _⟩ := sq_inv I hqy
    obtain ⟨u, hu, ru⟩ := rv.get hx
    obtain ⟨u2, hu2, ru2⟩ := rv2.get hy
    have hh : X.A.in1.handled = none := I.ok.hd hc
    refine ⟨_, _, _, _, _, GoesN.zip2 S (draws_s hh t1 i1 a n1 its.toArray) (draws_s hh t2 i2 b n2 its2.toArray), fun c hc => by simp at hc ⊢; rcases hc with h | h | h | h <;> simp [h], ?_, ⟨hz, hTI, hTO, ⟨h1, p⟩, ⟨h2, p2⟩⟩, fun h' q => ⟨q.1, q.2.1, q.2.2.1, q.2.2.2.1.1, q.2.2.2.2.1⟩, ?_⟩
    · have l1 := (List.getElem?_eq_some_iff.mp hu).1
      have l2 := (List.getElem?_eq_some_iff.mp hu2).1
      rw [List.size_toArray, List.size_toArray]; omega
    · rintro v h' ⟨T, u', u2', rfl, hT, e1, e2, tup⟩
      have e1' : its.toArray[i]? = some u := by simpa using hu
      have e2' : its2.toArray[i]? = some u2 := by simpa using hu2
      rw [e1'] at e1
      rw [e2'] at e2
      cases e1
      cases e2
      exact ⟨T, [x, y], [u, u2], rfl, hT, .cons ru (.cons ru2 .nil), tup, by show 2 ≤ sizeLine; decide, fun hn => ⟨T, x, y, rfl, hn, rfl, fun l hl => by rw [sq_inj I hl hqx]; exact hx, fun l hl => by rw [sq_inj I hl hqy]; exact hy⟩⟩
  · intro X hP hw hK hc i pins s σ H I st hg
    subst hP hw hK
    obtain ⟨hz, hTI, hTO, h1, h2⟩ := st
    obtain ⟨xs, ys, hqx, hqy, hend⟩ := hg
    obtain ⟨its, rv, p, _⟩ := sq_inv I hqx
    obtain ⟨its2, rv2, p2, _⟩ := sq_inv I hqy
    have hh : X.A.in1.handled = none := I.ok.hd hc
    have hn : min its.toArray.size its2.toArray.size = i := by
      rw [List.size_toArray, List.size_toArray, ← rv.length, ← rv2.length]; exact hend
    have W := GoesN.zip2 (prog := X.prog) (w := X.w) (elts := elts) (x1 := kk) (pos := tpos) S (draws_s hh t1 i1 a n1 its.toArray) (draws_s hh t2 i2 b n2 its2.toArray)
    rw [hn] at W
    exact ⟨_, _, _, _, W, fun c hc => by simp at hc ⊢; rcases hc with h | h | h | h <;> simp [h], ⟨hz, hTI, hTO, ⟨h1, p⟩, ⟨h2, p2⟩⟩⟩
def iZipS (K : PySem.W.Frag) (ta : TA) : TI := fun σ H R => ta σ H fun vs H1 => ∃ t1 a t2 b xs ys, vs = [.ref a, .ref b] ∧ SqS t1 K H1 a xs ∧ SqS t2 K H1 b ys ∧ R (ItzS K t1 a t2 b) H1
theorem pi_zipS {X : Cx} {e e2 : Expr} {ta : TA} {p pos tpos : Pos} {elts : List Expr} {kk : Nat} (hg : Gl X "zip") (hm : X.mg "zip" = none) (ha : PA X [e, e2] ta)
    (hs : starEach [e, e2] X.env = (false, eval e X.env) :: starEach [e2] X.env) (hpl : (backTo pos (starEach [e2] X.env)).any (·.1) = false) :
    PI X (.Tuple elts kk tpos) (.Call (.Name "zip" p) [e, e2] [] pos) (iZipS X.K ta) := by
  refine ⟨fun pins s σ H R I h => ?_⟩
  refine Call_ (ld_blt I hg hm PyProof.Rows.boot_zip (PyProof.Rows.callWith_type1 (thn (ha.run pos pins s σ H _ I h) fun us s1 ⟨vs, H1, I1, r1, q1⟩ => ?_) hs hpl))
  obtain ⟨t1, a, t2, b, xs, ys, ex, hqx, hqy, q⟩ := q1
  subst ex
  cases r1 with
  | cons r rr =>
    cases rr with
    | cons r' rr =>
      cases rr
      cases r
      cases r'
      obtain ⟨its, rv, p1, _⟩ := sq_inv I1 hqx
      obtain ⟨its2, rv2, p2, _⟩ := sq_inv I1 hqy
      have la := p1.lt
      have lb := p2.lt
      refine zip_begins2 (begins_s t1 a its.toArray) (begins_s t2 b its2.toArray) p1 p2 fun h' hz hTI hTO g1 g2 hsz hk => wpAny_pyIter_zip hz ?_
      have I2 : L2.Inv X pins σ H1 { s1 with heap := h' } := I1.kept (t' := s1.toks) hk
      refine ⟨s1.heap.objs.size + 4, [s1.heap.objs.size + 4, s1.heap.objs.size + 2, s1.heap.objs.size + 3, s1.heap.objs.size, s1.heap.objs.size + 1], _, _, H1, rfl, I2,
        turn_zipS (zip_sep2 (fp1 := [a]) (fp2 := [b]) (by simpa using la) (by simpa using lb)) (Nat.ne_of_lt la) (Nat.ne_of_lt (Nat.lt_succ_of_lt lb)), ⟨hz, hTI, ⟨_, _, hTO⟩, itAt0 g1, itAt0 g2⟩, fun c hcm => ?_, q⟩
      have hle : s1.heap.objs.size ≤ c := by
        have e' : c = s1.heap.objs.size + 4 ∨ c = s1.heap.objs.size + 2 ∨ c = s1.heap.objs.size + 3 ∨ c = s1.heap.objs.size ∨ c = s1.heap.objs.size + 1 := by simpa using hcm
        rcases e' with z | z | z | z | z <;> rw [z] <;> first | exact Nat.le_refl _ | exact Nat.le_add_right _ _
      exact I1.fpOk hle (I1.hok.fresh hle)
theorem walk_zipS {K : PySem.W.Frag} {t1 t2 : Bool} {a b : Addr} {xs ys : List V} {n : Nat} (hn : n = min xs.length ys.length) : Walk (ItzS K t1 a t2 b) n (fun H => SqS t1 K H a xs ∧ SqS t2 K H b ys) (YPair (fun i => xs[i]?) (fun i => ys[i]?)) := by
  subst hn
  refine ⟨fun i H hi z => ?_, fun H z => ⟨xs, ys, z.1, z.2, rfl⟩, fun i H v H' _ z y => ?_⟩
  · have h1 : i < xs.length := by omega
    have h2 : i < ys.length := by omega
    exact ⟨xs, ys, xs[i], ys[i], z.1, z.2, by simp [h1], by simp [h2]⟩
  · obtain ⟨T, x, u, h1, h2, h3, h4, h5⟩ := y
    exact ⟨T, x, u, h1, h2, h3, h4 xs z.1, h5 ys z.2⟩
end TK
namespace TK
open PySem PySem.Spec PyProof.Rows L2
/-- lists and tuples are short -/
def HLen (K : PySem.W.Frag) (H : Hp) : Prop := ∀ a xs, (SqL K H a xs ∨ H a = some (.tup xs)) → xs.length ≤ sizeLine
theorem _root_.L2.Inv.hlen {X : Cx} {pins : List (Addr × Obj)} {σ : L2.St} {H : Hp} {s : Shared} (I : L2.Inv X pins σ H s) : HLen X.K H := fun a xs h => by
  rcases h with h | h
  · obtain ⟨_, _, _, z⟩ := I.list h
    exact z
  · obtain ⟨z, _⟩ : xs.length ≤ sizeLine ∧ _ := I.hok a _ h
    exact z
theorem _root_.L2.PI.len {X : Cx} {tg it : Expr} {wi : TI} (h : PI X tg it wi) : PI X tg it (fun σ H R => wi σ H fun J H1 => HLen X.K H1 → R J H1) :=
  ⟨fun pins s σ H R I q => thn (h.run pins s σ H _ I q) fun v s1 h1 => thn h1 fun u s2 h2 => by
    obtain ⟨it, fp, tn, J, H', e1, I2, e3, e4, e5, e6⟩ := h2
    exact ⟨it, fp, tn, J, H', e1, I2, e3, e4, e5, e6 I2.hlen⟩⟩
theorem _root_.L2.PI.weak {X : Cx} {tg it : Expr} {wi wi' : TI} (h : PI X tg it wi) (i : ∀ σ H R, wi' σ H R → wi σ H R) : PI X tg it wi' := ⟨fun pins s σ H R I q => h.run pins s σ H R I (i σ H R q)⟩
theorem _root_.L2.PI.or {X : Cx} {tg it : Expr} {wi wi' : TI} (h : PI X tg it wi) (h' : PI X tg it wi') : PI X tg it (fun σ H R => wi σ H R ∨ wi' σ H R) := ⟨fun pins s σ H R I q => q.elim (h.run pins s σ H R I) (h'.run pins s σ H R I)⟩
abbrev Objs := List (Addr × HO)
def AtO (objs : Objs) (H : Hp) : Prop := ∀ p ∈ objs, H p.1 = some p.2
/-- new objects, one after the other -/
inductive New : Hp → Hp → Prop
  | refl (H : Hp) : New H H
  | step {H H1 : Hp} {T : Addr} {o : HO} (n : New H H1) (h : H1 T = none) : New H (upd H1 T o)
theorem Rel.postN {K : PySem.W.Frag} {w : Dr} {O0 O : Addr → Bool} {H0 H H' : Hp} {σ : L2.St} {env : Env} {st : DSt} (R : Rel K w O0 H0 O σ H env st) (n : New H H') : Post O w.ps H st H' := by
  induction n with
  | refl => exact R.here
  | step n h ih => exact ih.trans ((R.post ih).post_new h)
/-- what a walk gives: the i-th item, read in any later heap that keeps what may be read -/
def YOk (w : Dr) (G : Hp) (items : List D) (Y : Nat → Hp → V → Hp → Prop) : Prop :=
  ∀ i H1 x H2 O1, i < items.length → Y i H1 x H2 → Le G (hid H1 O1) → (∀ a, O1 a = true → Al (H1 a)) → New H1 H2 ∧ ∃ d, items[i]? = some d ∧ Rp w (hid H2 O1) x d
theorem tok_of {w : Dr} {G : Hp} {v : V} {d : D} (h : Rp w G v d) (e : isTok d = true) : v = .ref w.ps := by
  cases h with
  | tok => rfl
  | dK a b =>
    cases b with
    | nil => cases e
    | cons hk hv hr => rename_i k _ _ _ _ ; cases k <;> cases e
  | dT a b => cases e
  | scr => cases e
  | _ => cases e
theorem scr_of {w : Dr} {G : Hp} {v : V} {d : D} {l : List D} (h : Rp w G v d) (e : d = .dict [(.none, .list l)]) : v = .ref w.sa ∧ l = w.ns.map .int := by
  cases h with
  | tok => cases e
  | dK a b =>
    cases b with
    | nil => cases e
    | cons hk hv hr => rename_i k _ _ _ _ ; cases k <;> cases e
  | dT a b => cases e
  | scr => cases e; exact ⟨rfl, rfl⟩
  | _ => cases e
theorem bp_tok {w : Dr} {O : Addr → Bool} {H : Hp} {v : V} {d : D} (h : Bp w O H v d) (e : isTok d = true) : v = .ref w.ps := by
  rcases h with h | ⟨p, rfl, _, _, h⟩
  · exact tok_of h e
  · cases h with
    | lst _ _ => cases e
    | dK a b =>
      cases b with
      | nil => cases e
      | cons hk hv hr => rename_i k _ _ _ _ ; cases k <;> cases e
    | dT _ _ => cases e
theorem bp_scr {w : Dr} {O : Addr → Bool} {H : Hp} {v : V} {d : D} {l : List D} (h : Bp w O H v d) (e : d = .dict [(.none, .list l)]) : v = .ref w.sa ∧ l = w.ns.map .int := by
  rcases h with h | ⟨p, rfl, _, _, h⟩
  · exact scr_of h e
  · cases h with
    | lst _ _ => cases e
    | dK a b =>
      cases b with
      | nil => cases e
      | cons hk hv hr => rename_i k _ _ _ _ ; cases k <;> cases e
    | dT _ _ => cases e
/-- borrowed (true) or handed on (false) -/
def evM (m : Bool) (Γ : List FnSem) (env : Env) (A : TK.E) : M D := if m then orB env A (ev Γ env A) else ev Γ env A
def evsM (m : Bool) (Γ : List FnSem) (env : Env) (A : List TK.E) : M (List D) := if m then evsB Γ env A else evs Γ env A
def BpM (m : Bool) (w : Dr) (O : Addr → Bool) (H : Hp) (v : V) (d : D) : Prop := Bp w O H v d ∧ (m = false → Rp w (hid H O) v d)
theorem BpM.ext {m : Bool} {w : Dr} {O : Addr → Bool} {H H' : Hp} {v : V} {d : D} (e : Ext O w.ps H H') (h : BpM m w O H v d) : BpM m w O H' v d := ⟨h.1.ext e, fun q => (h.2 q).mono e.le⟩
section
variable (K : PySem.W.Frag) (mg : Str → Option Value) (E : XK) (Γ : List FnSem)
def rdM (m : Bool) (T : TK.E) : TE := fun σ H Q => ∃ w O0 H0 O env st r st', Rel K w O0 H0 O σ H env st ∧ evM m Γ env T st = some (r, st') ∧ Out mg E O w.ps H r st' fun d H' => ∀ v, BpM m w O H' v d → Q v H'
/-- readings of a walk: over borrowed things, over things that may be read while others are written -/
def rdI (m : Bool) (k : IK) (src : List TK.E) : TI := fun σ H R => ∃ w O0 H0 O env st r st', Rel K w O0 H0 O σ H env st ∧ (evsM m Γ env src >>= fun ds => liftO (walkL k ds)) st = some (r, st') ∧
  Out mg E O w.ps H r st' fun items H' => ∀ J, (∃ (objs : Objs) (Y : Nat → Hp → V → Hp → Prop), AtO objs H' ∧ Walk J items.length (fun H => AtO objs H ∧ SqL K H w.sa (w.ns.map V.int)) Y ∧ YOk w (hid H' O) items Y ∧ (∀ p ∈ objs, p.1 ≠ w.ps ∧ (m = false → O p.1 = false) ∧ ((∃ xs, p.2 = .lst xs) ∨ (∃ xs, p.2 = .tup xs) ∨ ∃ od u, p.2 = .frz od u ∧ O p.1 = false))) → items.length ≤ sizeLine → R J H'
end
theorem Bp.ne_ps {K : PySem.W.Frag} {w : Dr} {O0 O : Addr → Bool} {H0 H : Hp} {σ : L2.St} {env : Env} {st : DSt} {a : Addr} {ds : List D} (R : Rel K w O0 H0 O σ H env st) (h : Bp w O H (.ref a) (.list ds)) : a ≠ w.ps := by
  rcases h with h | ⟨p, e, _, h, _⟩
  · cases h with
    | lst z _ => exact fun e => by rw [e, hid_no (R.sub _ R.ops)] at z; cases z
  · cases e; exact h
theorem Bp.ne_psT {K : PySem.W.Frag} {w : Dr} {O0 O : Addr → Bool} {H0 H : Hp} {σ : L2.St} {env : Env} {st : DSt} {a : Addr} {ds : List D} (R : Rel K w O0 H0 O σ H env st) (h : Bp w O H (.ref a) (.tuple ds)) : a ≠ w.ps := by
  rcases h with h | ⟨p, e, _, h, z⟩
  · cases h with
    | tup z _ => exact fun e => by rw [e, hid_no (R.sub _ R.ops)] at z; cases z
  · cases z
theorem rp_free {w : Dr} {O : Addr → Bool} {H : Hp} {a : Addr} {ds : List D} (h : Rp w (hid H O) (.ref a) (.list ds)) : O a = false := by
  cases h with
  | lst z _ => exact (hid_some z).1
theorem rp_freeT {w : Dr} {O : Addr → Bool} {H : Hp} {a : Addr} {ds : List D} (h : Rp w (hid H O) (.ref a) (.tuple ds)) : O a = false := by
  cases h with
  | tup z _ => exact (hid_some z).1
theorem evsM1 {m : Bool} {Γ : List FnSem} {env : Env} {A : TK.E} {k : IK} {st st' : DSt} {r : Except Str (List D)} (q : (evsM m Γ env [A] >>= fun ds => liftO (walkL k ds)) st = some (r, st')) :
    (evM m Γ env A >>= fun d => liftO (walkL k [d])) st = some (r, st') := by
  cases m with
  | true =>
    have q : ((orB env A (ev Γ env A) >>= fun d => (pure [] : M (List D)) >>= fun ds => pure (d :: ds)) >>= fun ds => liftO (walkL k ds)) st = some (r, st') := q
    rw [bind_assoc'] at q
    exact q
  | false =>
    have q : ((ev Γ env A >>= fun d => (pure [] : M (List D)) >>= fun ds => pure (d :: ds)) >>= fun ds => liftO (walkL k ds)) st = some (r, st') := q
    rw [bind_assoc'] at q
    exact q
theorem rdM_bind {K : PySem.W.Frag} {mg : Str → Option Value} {E : XK} {Γ : List FnSem} {w : Dr} {O0 O : Addr → Bool} {H0 H : Hp} {σ : L2.St} {env : Env} {st st2 : DSt} {m : Bool} {α : Type} {T : TK.E} {f : D → M α} {r : Except Str α} {Qo : α → Hp → Prop} {Q : VK} (R : Rel K w O0 H0 O σ H env st) (h : (evM m Γ env T >>= f) st = some (r, st2)) (o : Out mg E O w.ps H r st2 Qo)
    (k : ∀ d st1 v H1, Rel K w O0 H0 O σ H1 env st1 → Post O w.ps H st1 H1 → BpM m w O H1 v d → f d st1 = some (r, st2) → Out mg E O w.ps H1 r st2 Qo → Q v H1) : rdM K mg E Γ m T σ H Q := by
  rcases bind_inv h with ⟨c, h1, rfl⟩ | ⟨d, st1, h1, h2⟩
  · exact ⟨w, O0, H0, O, env, st, _, _, R, h1, o⟩
  · exact ⟨w, O0, H0, O, env, st, _, _, R, h1, fun H1 p v q => k d st1 v H1 (R.post p) p q h2 (o.later p)⟩
theorem s_mB {X : Cx} {E : XK} {Γ : List FnSem} {e : Expr} {A : TK.E} (h : PE X e (rdB X.K X.mg E Γ A)) : PE X e (rdM X.K X.mg E Γ true A) := h.weak fun σ H Q q => by
  obtain ⟨w, O0, H0, O, env, st, rr, st', R, q, oo⟩ := q
  refine ⟨w, O0, H0, O, env, st, rr, st', R, q, ?_⟩
  cases rr with
  | ok d => exact fun H' p v b => oo H' p v ⟨b, fun z => by cases z⟩
  | error c => exact oo
theorem s_mV {X : Cx} {E : XK} {Γ : List FnSem} {e : Expr} {A : TK.E} (h : PE X e (rd X.K X.mg E Γ A)) : PE X e (rdM X.K X.mg E Γ false A) := h.weak fun σ H Q q => by
  obtain ⟨w, O0, H0, O, env, st, rr, st', R, q, oo⟩ := q
  refine ⟨w, O0, H0, O, env, st, rr, st', R, q, ?_⟩
  cases rr with
  | ok d => exact fun H' p v b => oo H' p v ⟨.inl b, fun _ => b⟩
  | error c => exact oo
theorem chars_at {z : Str} {i : Nat} {c : Nat} (h : z.cps[i]? = some c) : (chars z)[i]? = some (.str ⟨#[c]⟩) := by
  unfold chars
  rw [List.getElem?_map, Array.getElem?_toList, h]
  rfl
section
variable {X : Cx} {E : XK} {Γ : List FnSem} {k : Nat} {tg : Expr} {m : Bool}
theorem yat_ok {w : Dr} {G : Hp} {xs : List V} {ds : List D} (r : RpAll w G xs ds) : YOk w G ds (YAt xs) := fun i H1 x H2 O1 hi y le alc => by
  obtain ⟨rfl, hx⟩ := y
  obtain ⟨d, e, rp⟩ := r.get hx
  exact ⟨.refl _, d, e, rp.mono le⟩
theorem ypair_ok {w : Dr} {G : Hp} {xs ys : List V} {ds es : List D} (r : RpAll w G xs ds) (r' : RpAll w G ys es) : YOk w G ((ds.zip es).map fun p => .tuple [p.1, p.2]) (YPair (fun i => xs[i]?) (fun i => ys[i]?)) := fun i H1 x H2 O1 hi y le alc => by
  obtain ⟨T, x1, x2, rfl, hT, rfl, e1, e2⟩ := y
  obtain ⟨d1, f1, rp1⟩ := r.get e1
  obtain ⟨d2, f2, rp2⟩ := r'.get e2
  have oT : O1 T = false := by
    cases z : O1 T with
    | false => rfl
    | true => exact absurd hT (alc T z).ne
  refine ⟨.step (.refl _) hT, .tuple [d1, d2], ?_, .tup (by rw [hid_of oT]; exact upd_same) ?_⟩
  · rw [List.getElem?_map, (List.getElem?_zip_eq_some (z := (d1, d2))).mpr ⟨f1, f2⟩]
    rfl
  · have le2 : Le (hid H1 O1) (hid (upd H1 T (.tup [x1, x2])) O1) := (Ext.new (ps := w.ps) hT).le
    exact .cons (rp1.mono (le.trans le2)) (.cons (rp2.mono (le.trans le2)) .nil)
theorem i_plain {e : Expr} {A : TK.E} (h : PE X e (rdM X.K X.mg E Γ m A)) : PI X tg e (rdI X.K X.mg E Γ m .plain [A]) := by
  refine (((pi_list h).or (pi_tup h)).or (pi_str h)).len.weak fun σ H R q => ?_
  obtain ⟨w, O0, H0, O, env, st, rr, st', Re, q, oo⟩ := q
  have q' := evsM1 q
  rcases bind_inv q' with ⟨c, h1, rfl⟩ | ⟨d, st1, h1, h2⟩
  · exact .inl (.inl ⟨w, O0, H0, O, env, st, .error c, _, Re, h1, oo⟩)
  · obtain ⟨items, h3, rfl, rfl⟩ := liftO_inv h2
    cases d with
    | list l =>
      cases h3
      refine .inl (.inl ⟨w, O0, H0, O, env, st, .ok _, _, Re, h1, fun H1 p1 v b1 => ?_⟩)
      obtain ⟨a, xs, rfl, g1, r1⟩ := b1.1.list
      have np := b1.1.ne_ps (Re.post p1)
      refine ⟨a, rfl, ⟨xs, SqL.of g1⟩, fun hl => oo H1 p1 _ ⟨[(a, .lst xs)], YAt xs, fun p hp => ?_, ?_, yat_ok r1, fun p hp => ?_⟩ (by rw [← r1.length]; exact hl a xs (.inl (SqL.of g1)))⟩
      · rw [List.mem_singleton.mp hp]; exact g1
      · rw [← r1.length]
        exact walk_list.mono (fun H z => SqL.of (z.1 (a, .lst xs) List.mem_cons_self)) fun _ _ _ _ _ _ y => y
      · rw [List.mem_singleton.mp hp]; exact ⟨np, fun z => rp_free (b1.2 z), .inl ⟨xs, rfl⟩⟩
    | tuple l =>
      cases h3
      refine .inl (.inr ⟨w, O0, H0, O, env, st, .ok _, _, Re, h1, fun H1 p1 v b1 => ?_⟩)
      obtain ⟨a, xs, rfl, g1, r1⟩ := b1.1.tuple
      have np := b1.1.ne_psT (Re.post p1)
      refine ⟨a, rfl, ⟨xs, SqT.of g1⟩, fun hl => oo H1 p1 _ ⟨[(a, .tup xs)], YAt xs, fun p hp => ?_, ?_, yat_ok r1, fun p hp => ?_⟩ (by rw [← r1.length]; exact hl a xs (.inr g1))⟩
      · rw [List.mem_singleton.mp hp]; exact g1
      · rw [← r1.length]
        exact walk_tup.mono (fun H z => SqT.of (z.1 (a, .tup xs) List.mem_cons_self)) fun _ _ _ _ _ _ y => y
      · rw [List.mem_singleton.mp hp]; exact ⟨np, fun z => rp_freeT (b1.2 z), .inr (.inl ⟨xs, rfl⟩)⟩
    | str z =>
      simp only [walkL] at h3
      split at h3
      · rename_i hz
        cases h3
        refine .inr ⟨w, O0, H0, O, env, st, .ok _, _, Re, h1, fun H1 p1 v b1 => ?_⟩
        obtain ⟨rfl, ok⟩ := b1.1.str
        have hlen : (chars z).length = z.cps.size := by unfold chars; rw [List.length_map, Array.length_toList]
        refine ⟨z, rfl, fun hl => oo H1 p1 _ ⟨[], fun i H v H' => H' = H ∧ ∃ c, z.cps[i]? = some c ∧ v = .str ⟨#[c]⟩, fun p hp => (nomatch hp), ?_, fun i H2 x H3 O1 hi y le alc => ?_, fun p hp => (nomatch hp)⟩ (by rw [hlen]; exact hz)⟩
        · rw [hlen]
          exact walk_str.mono (fun H _ => True.intro) fun _ _ _ _ _ _ y => y
        · obtain ⟨rfl, c, e1, rfl⟩ := y
          exact ⟨.refl _, _, chars_at e1, .str _ (strOk_one ok (by rw [← Array.getElem?_toList] at e1; exact List.mem_of_getElem? e1))⟩
      · cases h3
    | dict l =>
      have hl : ∃ l', (PyData.dict l) = .dict [(.none, .list l')] ∧ items = l' := by
        simp only [walkL] at h3
        split at h3
        all_goals first | (cases h3; done) | skip
        all_goals simp_all
      obtain ⟨l', e1, rfl⟩ := hl
      refine .inl (.inl ⟨w, O0, H0, O, env, st, .ok _, _, Re, h1, fun H1 p1 v b1 => ?_⟩)
      obtain ⟨rfl, rfl⟩ := bp_scr b1.1 e1
      have R1 := Re.post p1
      have sq : SqL X.K H1 w.sa (w.ns.map V.int) := hid_le.sqL R1.scr
      have rall : ∀ (l : List Int), RpAll w (hid H1 O) (l.map V.int) (l.map PyData.int) := by
        intro l
        induction l with
        | nil => exact .nil
        | cons n l ih => exact .cons (.int n) ih
      refine ⟨w.sa, rfl, ⟨_, sq⟩, fun hl => oo H1 p1 _ ⟨[], YAt (w.ns.map V.int), fun p hp => (nomatch hp), ?_, yat_ok (rall w.ns), fun p hp => (nomatch hp)⟩ ?_⟩
      · rw [List.length_map, ← List.length_map (f := V.int)]
        exact walk_list.mono (fun H z => z.2) fun _ _ _ _ _ _ y => y
      · rw [List.length_map, ← List.length_map (f := V.int)]
        exact hl _ _ (.inl sq)
    | _ => cases h3
theorem range_at {lo : Int} {n i : Nat} (h : i < n) : (rangeL lo n)[i]? = some (.int (lo + (i : Int))) := by
  unfold rangeL
  rw [List.getElem?_map, List.getElem?_range h]
  rfl
theorem range_len {lo : Int} {n : Nat} : (rangeL lo n).length = n := by unfold rangeL; rw [List.length_map, List.length_range]
theorem lim_eq : lim = 16777216 := sizeLine_eq
theorem i_range1 {e : Expr} {A : TK.E} {p pos : Pos} (hg : Gl X "range") (hm : X.mg "range" = none) (h : PE X e (rdM X.K X.mg E Γ m A)) (hs : notStar e = true) : PI X tg (.Call (.Name "range" p) [e] [] pos) (rdI X.K X.mg E Γ m .range1 [A]) := by
  refine (pi_range1 hg hm (pa_cons h pa_nil (star_ok hs)) (star_ok hs)).weak fun σ H R q => ?_
  obtain ⟨w, O0, H0, O, env, st, rr, st', Re, q, oo⟩ := q
  refine rdM_bind Re (evsM1 q) oo fun d st1 v H1 R1 p1 b1 h1 o1 => ?_
  obtain ⟨items, h3, rfl, rfl⟩ := liftO_inv h1
  cases d with
  | int n =>
    simp only [walkL] at h3
    split at h3
    · rename_i hn
      cases h3
      obtain rfl := b1.1.int
      rw [lim_eq] at hn
      refine ⟨n, rfl, by omega, by omega, o1 H1 R1.here _ ⟨[], YFn fun i => .int (0 + (i : Int)), fun p hp => (nomatch hp), ?_, fun i H2 x H3 O1 hi y le alc => ?_, fun p hp => (nomatch hp)⟩ (by rw [range_len, sizeLine_eq]; omega)⟩
      · rw [range_len]
        exact walk_range.mono (fun H _ => True.intro) fun _ _ _ _ _ _ y => y
      · obtain ⟨rfl, rfl⟩ := y
        rw [range_len] at hi
        exact ⟨.refl _, _, range_at hi, .int _⟩
    · cases h3
  | _ => simp [walkL] at h3
theorem evsM2 {env : Env} {A B : TK.E} {k : IK} {st st' : DSt} {r : Except Str (List D)} (q : (evsM m Γ env [A, B] >>= fun ds => liftO (walkL k ds)) st = some (r, st')) :
    (evM m Γ env A >>= fun d => evM m Γ env B >>= fun e => liftO (walkL k [d, e])) st = some (r, st') := by
  cases m with
  | true =>
    have q : ((orB env A (ev Γ env A) >>= fun d => (orB env B (ev Γ env B) >>= fun e => (pure [] : M (List D)) >>= fun ds => pure (e :: ds)) >>= fun ds => pure (d :: ds)) >>= fun ds => liftO (walkL k ds)) st = some (r, st') := q
    simp only [bind_assoc'] at q
    exact q
  | false =>
    have q : ((ev Γ env A >>= fun d => (ev Γ env B >>= fun e => (pure [] : M (List D)) >>= fun ds => pure (e :: ds)) >>= fun ds => pure (d :: ds)) >>= fun ds => liftO (walkL k ds)) st = some (r, st') := q
    simp only [bind_assoc'] at q
    exact q
theorem zip_len {ds es : List D} : ((ds.zip es).map fun (p : D × D) => PyData.tuple [p.1, p.2]).length = min ds.length es.length := by rw [List.length_map, List.length_zip]
/-- a list or a tuple -/
def HOs : Bool → List V → HO
  | true, xs => .tup xs
  | false, xs => .lst xs
theorem SqS.of {K : PySem.W.Frag} {H : Hp} {t : Bool} {a : Addr} {xs : List V} (h : H a = some (HOs t xs)) : SqS t K H a xs := by
  cases t
  · exact SqL.of h
  · exact SqT.of h
theorem HOs.is {Z : Prop} (t : Bool) (xs : List V) : (∃ ys, HOs t xs = .lst ys) ∨ (∃ ys, HOs t xs = .tup ys) ∨ Z := by
  cases t
  · exact .inl ⟨xs, rfl⟩
  · exact .inr (.inl ⟨xs, rfl⟩)
theorem seq_src {K : PySem.W.Frag} {w : Dr} {O0 O : Addr → Bool} {H0 H : Hp} {σ : L2.St} {env : Env} {st : DSt} {m : Bool} {v : V} {d : D} {l : List D} (R : Rel K w O0 H0 O σ H env st) (b : BpM m w O H v d) (e : seqOf d = some l) :
    ∃ t a xs, v = .ref a ∧ H a = some (HOs t xs) ∧ RpAll w (hid H O) xs l ∧ a ≠ w.ps ∧ (m = false → O a = false) := by
  cases d with
  | list l' =>
    cases e
    obtain ⟨a, xs, rfl, g1, r1⟩ := b.1.list
    exact ⟨false, a, xs, rfl, g1, r1, b.1.ne_ps R, fun z => rp_free (b.2 z)⟩
  | tuple l' =>
    cases e
    obtain ⟨a, xs, rfl, g1, r1⟩ := b.1.tuple
    exact ⟨true, a, xs, rfl, g1, r1, b.1.ne_psT R, fun z => rp_freeT (b.2 z)⟩
  | _ => cases e
theorem SqS.len {K : PySem.W.Frag} {H : Hp} {t : Bool} {a : Addr} {xs : List V} (h : H a = some (HOs t xs)) (hl : ∀ (a : Addr) (xs : List V), (SqL K H a xs ∨ H a = some (.tup xs)) → xs.length ≤ sizeLine) : xs.length ≤ sizeLine := by
  cases t
  · exact hl a xs (.inl (SqL.of h))
  · exact hl a xs (.inr h)
theorem i_zip {e e' : Expr} {A B : TK.E} {p pos tpos : Pos} {elts : List Expr} {kk : Nat} (hg : Gl X "zip") (hm : X.mg "zip" = none) (h : PE X e (rdM X.K X.mg E Γ m A)) (h' : PE X e' (rdM X.K X.mg E Γ m B)) (hs : notStar e = true) (hs' : notStar e' = true) :
    PI X (.Tuple elts kk tpos) (.Call (.Name "zip" p) [e, e'] [] pos) (rdI X.K X.mg E Γ m .zip2 [A, B]) := by
  refine (pi_zipS hg hm (pa_cons h (pa_cons h' pa_nil (star_ok hs')) (star_ok hs)) (star_ok hs) (star_any (by rw [List.all_cons, hs']; rfl))).len.weak fun σ H R q => ?_
  obtain ⟨w, O0, H0, O, env, st, rr, st', Re, q, oo⟩ := q
  refine rdM_bind Re (evsM2 q) oo fun d st1 v H1 R1 p1 b1 h1 o1 => ?_
  refine rdM_bind R1 h1 o1 fun d' st2 v' H2 R2 p2 b2 h2 o2 => ?_
  have b1 := b1.ext p2.1
  obtain ⟨items, h3, rfl, rfl⟩ := liftO_inv h2
  obtain ⟨x, hx, h4⟩ := Option.bind_eq_some_iff.mp (show ((seqOf d).bind fun x => (seqOf d').map fun y => (x.zip y).map fun p => PyData.tuple [p.1, p.2]) = some items from h3)
  obtain ⟨y, hy, rfl⟩ := Option.map_eq_some_iff.mp h4
  obtain ⟨t1, a, xs, rfl, g1, r1, np1, f1⟩ := seq_src R2 b1 hx
  obtain ⟨t2, a', xs', rfl, g2, r2, np2, f2⟩ := seq_src R2 b2 hy
  refine ⟨t1, a, t2, a', xs, xs', rfl, SqS.of g1, SqS.of g2, fun hl => o2 H2 R2.here _ ⟨[(a, HOs t1 xs), (a', HOs t2 xs')], _, fun p hp => ?_, ?_, ypair_ok r1 r2, fun p hp => ?_⟩ ?_⟩
  · rcases List.mem_cons.mp hp with rfl | hp
    · exact g1
    · rw [List.mem_singleton.mp hp]; exact g2
  · exact (walk_zipS (by rw [zip_len, r1.length, r2.length])).mono (fun H z => ⟨SqS.of (z.1 (a, HOs t1 xs) List.mem_cons_self), SqS.of (z.1 (a', HOs t2 xs') (by simp))⟩) fun _ _ _ _ _ _ y => y
  · rcases List.mem_cons.mp hp with rfl | hp
    · exact ⟨np1, f1, HOs.is t1 xs⟩
    · rw [List.mem_singleton.mp hp]; exact ⟨np2, f2, HOs.is t2 xs'⟩
  · rw [zip_len, ← r1.length]
    have := SqS.len g1 hl
    omega
def rdC (K : PySem.W.Frag) (mg : Str → Option Value) (E : XK) (Γ : List FnSem) (T : List TK.E) : TT := fun σ H Q => ∃ w O0 H0 O env st r st', Rel K w O0 H0 O σ H env st ∧ evc Γ env T st = some (r, st') ∧ Out mg E O w.ps H r st' fun b H' => Q b H'
theorem _root_.L2.PTs.weak {X : Cx} {e : List Expr} {t t' : TT} (h : PTs X e t) (i : ∀ σ H Q, t' σ H Q → t σ H Q) : PTs X e t' := ⟨fun pins s σ H Q I q => h.run pins s σ H Q I (i σ H Q q)⟩
theorem c_nil : PTs X [] (rdC X.K X.mg E Γ []) := by
  refine pts_nil.weak fun σ H Q q => ?_
  obtain ⟨w, O0, H0, O, env, st, rr, st', R, q, oo⟩ := q
  obtain ⟨rfl, rfl⟩ := pure_inv (a := true) q
  exact oo H R.here
theorem c_one {c : Expr} {T : TK.E} (h : PT X c (rdT X.K X.mg E Γ T)) : PTs X [c] (rdC X.K X.mg E Γ [T]) := by
  refine (pts_one h).weak fun σ H Q q => ?_
  obtain ⟨w, O0, H0, O, env, st, rr, st', R, q, oo⟩ := q
  have q : (ev Γ env T >>= fun d => tru d >>= fun k => if k then (pure true : M Bool) else pure false) st = some (rr, st') := q
  rcases bind_inv q with ⟨c, h1, rfl⟩ | ⟨d, st1, h1, h2⟩
  · exact ⟨w, O0, H0, O, env, st, .error c, _, R, bind_err (orB_of h1), oo⟩
  · refine ⟨w, O0, H0, O, env, st, rr, st', R, ?_, oo⟩
    rw [bind_eq (orB_of h1)]
    rcases bind_inv h2 with ⟨c, h3, rfl⟩ | ⟨b, st2, h3, h4⟩
    · exact h3
    · cases b with
      | true => obtain ⟨rfl, rfl⟩ := pure_inv (a := true) h4; exact h3
      | false => obtain ⟨rfl, rfl⟩ := pure_inv (a := false) h4; exact h3
theorem compL_cons {f : D → M (Option D)} {d : D} {l : List D} {st st' : DSt} {out : List D} (h : compL f (d :: l) st = some (.ok out, st')) :
    ∃ o st1 rest, f d st = some (.ok o, st1) ∧ compL f l st1 = some (.ok rest, st') ∧ out = (match o with | some x => x :: rest | none => rest) := by
  have h : (f d >>= fun o => compL f l >>= fun rest => (pure (match o with | some x => x :: rest | none => rest) : M (List D))) st = some (.ok out, st') := h
  rcases bind_inv h with ⟨c, _, z⟩ | ⟨o, st1, h1, h2⟩
  · cases z
  · rcases bind_inv h2 with ⟨c, _, z⟩ | ⟨rest, st2, h3, h4⟩
    · cases z
    · obtain ⟨e1, rfl⟩ := pure_inv h4
      cases e1
      exact ⟨o, st1, rest, h1, h3, rfl⟩
theorem noX_inv {α : Type} {x : M α} {st st' : DSt} {r : Except Str α} (h : noX x st = some (r, st')) : ∃ a, r = .ok a ∧ x st = some (.ok a, st') := by
  unfold noX at h
  split at h
  · cases h; exact ⟨_, rfl, by assumption⟩
  · cases h
theorem wipe_but {vs : List Nat} {σ σ' : L2.St} {l : List Nat} (hb : But l σ σ') (hl : ∀ i ∈ l, i ∈ vs) : L2.wipe σ' vs = L2.wipe σ vs := by
  apply List.ext_getElem?
  intro i
  by_cases hi : i ∈ vs
  · have key : ∀ (τ : L2.St), i ∈ vs → (L2.wipe τ vs)[i]? = if i < τ.length then some none else none := by
      intro τ
      clear hb hl hi
      induction vs with
      | nil => intro h; cases h
      | cons v vs ih =>
        intro h
        show ((L2.wipe τ vs).set v none)[i]? = _
        by_cases e : v = i
        · subst e
          by_cases hlt : v < τ.length
          · rw [List.getElem?_set_self (by rw [wipe_length]; exact hlt), if_pos hlt]
          · rw [if_neg hlt, List.getElem?_eq_none (by rw [List.length_set, wipe_length]; omega)]
        · rw [List.getElem?_set_ne e]
          rcases List.mem_cons.mp h with z | z
          · exact absurd z.symm e
          · exact ih z
    rw [key σ' hi, key σ hi, hb.1]
  · rw [wipe_out hi, wipe_out hi]
    exact hb.2 i fun z => hi (hl i z)
theorem wipe_wipe (σ : L2.St) (vs : List Nat) : L2.wipe (L2.wipe σ vs) vs = L2.wipe σ vs := by
  have key : ∀ (ws : List Nat), (∀ i ∈ ws, i ∈ vs) → L2.wipe (L2.wipe σ vs) ws = L2.wipe σ vs := by
    intro ws
    induction ws with
    | nil => intro _; rfl
    | cons v ws ih =>
      intro h
      show (L2.wipe (L2.wipe σ vs) ws).set v none = _
      rw [ih fun i hi => h i (List.mem_cons_of_mem _ hi)]
      apply List.ext_getElem?
      intro i
      by_cases e : v = i
      · subst e
        by_cases hlt : v < (L2.wipe σ vs).length
        · rw [List.getElem?_set_self hlt]
          cases z : (L2.wipe σ vs)[v]? with
          | none => rw [List.getElem?_eq_none_iff] at z; omega
          | some o =>
            cases o with
            | none => rfl
            | some x => exact absurd (h v List.mem_cons_self) (wipe_some z).2
        · rw [List.getElem?_eq_none (by rw [List.length_set]; omega), List.getElem?_eq_none (by omega)]
      · rw [List.getElem?_set_ne e]
  exact key vs fun _ h => h
theorem le_write {H : Hp} {O : Addr → Bool} {p : Addr} {o : HO} (h : O p = true) : Le (hid H O) (hid (upd H p o) O) := fun a u e => by
  obtain ⟨e1, e2⟩ := hid_some e
  have ne : a ≠ p := fun q => by rw [q, h] at e1; cases e1
  exact ⟨u, by rw [hid_of e1, upd_ne ne]; exact e2, .refl u⟩
theorem Ext.upd2 {O : Addr → Bool} {ps : Addr} {H H' : Hp} (e : Ext O ps H H') (p : Addr) (o : HO) : Ext O ps (upd H p o) (upd H' p o) := by
  refine ⟨fun b u z n q => ?_, fun b u z q => ?_⟩
  · by_cases eb : b = p
    · rw [eb, upd_same] at q ⊢; exact q
    · rw [upd_ne eb] at q ⊢; exact e.own b u z n q
  · by_cases eb : b = p
    · rw [eb, upd_same] at q ⊢; exact ⟨u, q, .refl u⟩
    · rw [upd_ne eb] at q ⊢; exact e.rd b u z q
theorem upd_id {H : Hp} {p : Addr} {o : HO} (h : H p = some o) : upd H p o = H := by
  funext b
  by_cases e : b = p
  · rw [e, upd_same, h]
  · rw [upd_ne e]
/-- a new object is what is read -/
def rdN (K : PySem.W.Frag) (mg : Str → Option Value) (E : XK) (Γ : List FnSem) (T : TK.E) : TE := fun σ H Q => ∃ w O0 H0 O env st r st', Rel K w O0 H0 O σ H env st ∧ ev Γ env T st = some (r, st') ∧ (∀ d, r = .ok d → ownB true d = true) ∧ Out mg E O w.ps H r st' fun d H' => ∀ p, H p = none → OwnAt w (addO O p) H' p d → Q (.ref p) H'
theorem OwnAt.rp {w : Dr} {O : Addr → Bool} {H : Hp} {p : Addr} {d : D} (h : OwnAt w (addO O p) H p d) (ho : O p = false) : Rp w (hid H O) (.ref p) d := by
  have le : Le (hid H (addO O p)) (hid H O) := hid_mono fun a z => addO_of z
  cases h with
  | lst a b => exact .lst (by rw [hid_of ho]; exact a) (b.mono le)
  | dK a b => exact .dK (.inl (by rw [hid_of ho]; exact a)) (b.mono le)
  | dT a b => exact .dT (.inl (by rw [hid_of ho]; exact a)) (b.mono le)
theorem Rel.fresh {K : PySem.W.Frag} {w : Dr} {O0 O : Addr → Bool} {H0 H H' : Hp} {σ : L2.St} {env : Env} {st st' : DSt} (R : Rel K w O0 H0 O σ H env st) (P : Post O w.ps H st' H') {p : Addr} (h : H' p = none) : H p = none := by
  have hp : p ≠ w.ps := fun e => by rw [e, P.2] at h; cases h
  cases e : H p with
  | none => rfl
  | some o =>
    cases z : O p with
    | true => rw [P.1.own p o z hp e] at h; cases h
    | false =>
      obtain ⟨o', e', _⟩ := P.1.rd p o z e
      rw [h] at e'; cases e'
theorem s_N2V {e : Expr} {A : TK.E} (hA : ∀ env st r st', ev Γ env A st = some (r, st') → ∀ d, r = .ok d → ownB true d = true) (h : PE X e (rdN X.K X.mg E Γ A)) : PE X e (rd X.K X.mg E Γ A) := h.weak fun σ H Q q => by
  obtain ⟨w, O0, H0, O, env, st, rr, st', R, q, oo⟩ := q
  refine ⟨w, O0, H0, O, env, st, rr, st', R, q, hA _ _ _ _ q, ?_⟩
  cases rr with
  | ok d => exact fun H' p a ha b => oo H' p _ (b.rp (R.free ha))
  | error c => exact oo
theorem tlc_of {K : PySem.W.Frag} {mg : Str → Option Value} {E : XK} {Γ : List FnSem} {vs : List Nat} {tgt : Tg} {ik : IK} {src conds : List TK.E} {T : TK.E} (hsl : ∀ i ∈ slotsT tgt, i ∈ vs) : ∀ σ H Q, rdN K mg E Γ (.comp vs tgt ik src conds T) σ H Q → tLc (rdI K mg E Γ true ik src) (rdG K tgt) (rdC K mg E0 Γ conds) (rd K mg E0 Γ T) vs σ H Q := by
  intro σ H Q q
  obtain ⟨w, O0, H0, O, env, st, rr, st', R, q, _, oo⟩ := q
  let f : D → M (Option D) := fun d => liftO (asgT tgt d (wipeE env vs)) >>= fun env1 => evc Γ env1 conds >>= fun b => if b then ev Γ env1 T >>= fun x => pure (some x) else pure none
  have q : ((evsB Γ env src >>= fun ds => liftO (walkL ik ds)) >>= fun items => noX (compL f items) >>= fun out => (pure (.list out) : M D)) st = some (rr, st') := by
    rw [bind_assoc']
    exact q
  rcases bind_inv q with ⟨c, h1, rfl⟩ | ⟨items, st1, h1, h2⟩
  · exact ⟨w, O0, H0, O, env, st, .error c, _, R, h1, oo⟩
  · refine ⟨w, O0, H0, O, env, st, .ok items, st1, R, h1, fun H1 p1 J hJ hlen => ?_⟩
    obtain ⟨objs, Y, hat, wk, yok, kinds⟩ := hJ
    have R1 := R.post p1
    have o1 := oo.later p1
    rcases bind_inv h2 with ⟨c, h3, rfl⟩ | ⟨out, st2, h3, h4⟩
    · obtain ⟨a, z, _⟩ := noX_inv h3
      cases z
    · obtain ⟨_, z, h5⟩ := noX_inv h3
      cases z
      obtain ⟨rfl, rfl⟩ := pure_inv h4
      intro D0 hD
      have neD : ∀ p ∈ objs, p.1 ≠ D0 := fun p hp e => by
        have := hat p hp
        rw [e, hD] at this; cases this
      have RD := (R1.wipe vs).hide (o := .lst []) hD
      have leD : Le (hid H1 O) (hid (upd H1 D0 (.lst [])) (addO O D0)) := fun a u e => by
        obtain ⟨e1, e2⟩ := hid_some e
        have ne : a ≠ D0 := ne_of_none e2 hD
        exact ⟨u, by rw [hid_of (by rw [addO_ne ne]; exact e1), upd_ne ne]; exact e2, .refl u⟩
      have oD : O D0 = false := R1.free hD
      have o0D : O0 D0 = false := by
        cases z : O0 D0 with
        | false => rfl
        | true => rw [R1.sub D0 z] at oD; cases oD
      refine lc_it wk (fun i Hi => ∃ (sti : DSt) (acc : List V) (outi rest : List D), Rel K w O0 H0 (addO O D0) (L2.wipe σ vs) Hi (wipeE env vs) sti ∧ Hi D0 = some (.lst acc) ∧ RpAll w (hid Hi (addO O D0)) acc outi ∧ outi.length ≤ i ∧
          compL f (items.drop i) sti = some (.ok rest, st') ∧ out = outi ++ rest ∧ Ext (addO O D0) w.ps (upd H1 D0 (.lst [])) (upd Hi D0 (.lst [])) ∧ Le (hid H1 O) (hid Hi (addO O D0))) ?_ ?_ ?_ ?_
      · exact ⟨_, [], [], out, RD, upd_same, .nil, Nat.le_refl _, h5, rfl, by rw [upd_upd]; exact Ext.refl, leD⟩
      · rintro i Hi _ ⟨sti, acc, outi, rest, Ri, hDi, _, _, _, _, ex, _⟩
        refine ⟨fun p hp => ?_, hid_le.sqL Ri.scr⟩
        have h6 := hat p hp
        have ne := neD p hp
        have h7 : (upd H1 D0 (.lst [])) p.1 = some p.2 := by rw [upd_ne ne]; exact h6
        have h8 : ∃ o', (upd Hi D0 (.lst [])) p.1 = some o' ∧ Kp p.2 o' := by
          cases z : addO O D0 p.1 with
          | false => exact ex.rd p.1 p.2 z h7
          | true => exact ⟨p.2, ex.own p.1 p.2 z (kinds p hp).1 h7, .refl _⟩
        obtain ⟨o', h9, kk⟩ := h8
        rw [upd_ne ne] at h9
        rcases (kinds p hp).2.2 with ⟨xs, e⟩ | ⟨xs, e⟩ | ⟨od, u, e, _⟩
        · rw [e] at kk ⊢
          rw [h9, kk.lst]
        · rw [e] at kk ⊢
          rw [h9, kk.tup]
        · rw [e] at kk ⊢
          rw [h9, kk.frz]
      · rintro i x Hi Hj hin ⟨sti, acc, outi, rest, Ri, hDi, rpi, len, hcomp, hout, ex, le⟩ y
        obtain ⟨alloc, d, hd, rp⟩ := yok i Hi x Hj _ hin y le Ri.alc
        have hdrop : items.drop i = d :: items.drop (i + 1) := List.drop_eq_getElem?_toList_append.trans (by rw [hd]; rfl)
        rw [hdrop] at hcomp
        obtain ⟨o, st3, rest', g1, g2, g3⟩ := compL_cons hcomp
        have Pj : Post (addO O D0) w.ps Hi sti Hj := Ri.postN alloc
        have Rj := Ri.post Pj
        have g1 : (liftO (asgT tgt d (wipeE env vs)) >>= fun env1 => evc Γ env1 conds >>= fun b => if b then ev Γ env1 T >>= fun x => pure (some x) else pure none) sti = some (.ok o, st3) := g1
        rcases bind_inv g1 with ⟨c, _, z⟩ | ⟨env1, sta, g4, g5⟩
        · cases z
        obtain ⟨_, hasg, z, rfl⟩ := liftO_inv g4
        cases z
        rcases bind_inv g5 with ⟨c, _, z⟩ | ⟨b, stb, g6, g7⟩
        · cases z
        have own0 : ∀ (j : Nat) (e : D), (wipeE env vs)[j]? = some (Slot.own e) → (L2.wipe σ vs)[j]? ≠ some (some (.ref D0)) := fun j e hj z => by
          obtain ⟨p, e1, e2, _⟩ := (R1.wipe vs).own j e hj
          rw [z] at e1
          cases e1
          rw [oD] at e2
          cases e2
        refine ⟨w, O0, H0, _, wipeE env vs, _, d, env1, Rj, rp, hasg, fun σ2 R2 but => ⟨?_, ?_⟩⟩
        · rw [wipe_but but hsl, wipe_wipe]
        · refine ⟨w, O0, H0, _, env1, _, .ok b, stb, R2, g6, fun H3 p3 => ?_⟩
          have R3 := R2.post p3
          have P3 := Pj.trans p3
          have nx : ∀ {stn : DSt} {H4 : Hp} {acc' : List V} {out' : List D}, Post (addO O D0) w.ps Hi stn H4 → RpAll w (hid H4 (addO O D0)) acc' out' → out'.length ≤ i + 1 → compL f (items.drop (i + 1)) stn = some (.ok rest', st') → out = out' ++ rest' →
              ∃ (sti : DSt) (acc : List V) (outi rest : List D), Rel K w O0 H0 (addO O D0) (L2.wipe σ vs) (upd H4 D0 (.lst acc')) (wipeE env vs) sti ∧ (upd H4 D0 (.lst acc')) D0 = some (.lst acc) ∧ RpAll w (hid (upd H4 D0 (.lst acc')) (addO O D0)) acc outi ∧ outi.length ≤ i + 1 ∧
                compL f (items.drop (i + 1)) sti = some (.ok rest, st') ∧ out = outi ++ rest ∧ Ext (addO O D0) w.ps (upd H1 D0 (.lst [])) (upd (upd H4 D0 (.lst acc')) D0 (.lst [])) ∧ Le (hid H1 O) (hid (upd H4 D0 (.lst acc')) (addO O D0)) := fun {stn H4 acc' out'} P4 r4 l4 c4 e4 => by
            refine ⟨stn, acc', out', rest', (Ri.post P4).write addO_self o0D own0, upd_same, r4.mono (le_write addO_self), l4, c4, e4, ?_, le.trans (P4.1.le.trans (le_write addO_self))⟩
            rw [upd_upd]
            exact ex.trans (P4.1.upd2 D0 _)
          cases b with
          | false =>
            dsimp only
            rw [if_neg Bool.false_ne_true]
            obtain ⟨z, rfl⟩ := pure_inv (a := (none : Option D)) g7
            cases z
            have hD3 : H3 D0 = some (.lst acc) := P3.1.own D0 _ addO_self (R1.ps_ne hD) hDi
            have := nx P3 (rpi.mono P3.1.le) (Nat.le_succ_of_le len) g2 (by rw [hout, g3])
            rw [upd_id hD3] at this
            exact this
          | true =>
            dsimp only
            rw [if_pos rfl]
            have g7 : (ev Γ env1 T >>= fun x => (pure (some x) : M (Option D))) stb = some (.ok o, st3) := g7
            rcases bind_inv g7 with ⟨c, _, z⟩ | ⟨xd, stc, g8, g9⟩
            · cases z
            obtain ⟨z, rfl⟩ := pure_inv g9
            cases z
            refine ⟨w, O0, H0, _, env1, stb, .ok xd, _, R3, g8, fun H4 p4 v rv => ?_⟩
            have P4 := P3.trans p4
            refine ⟨acc, P4.1.own D0 _ addO_self (R1.ps_ne hD) hDi, ?_, ?_⟩
            · rw [rpi.length]
              omega
            · refine nx P4 ((rpi.mono P4.1.le).append (.cons rv .nil)) ?_ g2 ?_
              · rw [List.length_append, List.length_singleton]; omega
              · rw [hout, g3, List.append_assoc]; rfl
      · rintro Hn ⟨sti, acc, outi, rest, Ri, hDi, rpi, len, hcomp, hout, ex, le⟩
        rw [List.drop_length] at hcomp
        cases hcomp
        rw [List.append_nil] at hout
        subst hout
        refine o1 Hn ⟨⟨fun b u z n e => ?_, fun b u z e => ?_⟩, Ri.sts⟩ D0 (R.fresh p1 hD) (.lst hDi rpi)
        · have ne : b ≠ D0 := fun y => by rw [y, oD] at z; cases z
          have := ex.own b u (addO_of z) n (by rw [upd_ne ne]; exact e)
          rw [upd_ne ne] at this
          exact this
        · have ne : b ≠ D0 := ne_of_none e hD
          obtain ⟨u', e1, e2⟩ := ex.rd b u (by rw [addO_ne ne]; exact z) (by rw [upd_ne ne]; exact e)
          rw [upd_ne ne] at e1
          exact ⟨u', e1, e2⟩
theorem n_comp {elt tg iter : Expr} {ifs : List Expr} {scope : Scope} {own : List (Str × Nat)} {pos : Pos} {tgt : Tg} {ik : IK} {src conds : List TK.E} {T : TK.E} (hc : X.calm = true) (hN : X.N.Nodup) (hi : PI X tg iter (rdI X.K X.mg E Γ true ik src)) (ok : BlkOk X.N X.env.scope scope own)
    (hg : ∀ (s : Shared) (H : Hp) (C : Addr) (cl : List (Str × Addr)) (fp : List Addr), PG (X.blk s H scope (compEnvC scope cl C X.env) fp) tg (rdG X.K tgt))
    (ht : ∀ (s : Shared) (H : Hp) (C : Addr) (cl : List (Str × Addr)) (fp : List Addr), PTs (X.blk s H scope (compEnvC scope cl C X.env) fp) ifs (rdC X.K X.mg E0 Γ conds))
    (he : ∀ (s : Shared) (H : Hp) (C : Addr) (cl : List (Str × Addr)) (fp : List Addr), PE (X.blk s H scope (compEnvC scope cl C X.env) fp) elt (rd X.K X.mg E0 Γ T))
    (hsl : ∀ i ∈ slotsT tgt, i ∈ own.map (·.2)) (hs : ∀ x, foldedSetIterable iter X.env x = pure x) :
    PE X (.ListComp elt [⟨tg, iter, ifs, 0⟩] scope pos) (rdN X.K X.mg E Γ (.comp (own.map (·.2)) tgt ik src conds T)) :=
  (pe_lc hc hN hi ok hg ht he hs).weak (tlc_of hsl)
theorem comp_list {Γ : List FnSem} {own : List Nat} {tgt : Tg} {ik : IK} {src conds : List TK.E} {T : TK.E} : ∀ env st r st', ev Γ env (.comp own tgt ik src conds T) st = some (r, st') → ∀ d, r = .ok d → ownB true d = true := by
  intro env st r st' h d hd
  subst hd
  rcases bind_inv h with ⟨c, _, z⟩ | ⟨a, s1, _, h⟩
  · cases z
  rcases bind_inv h with ⟨c, _, z⟩ | ⟨a, s1, _, h⟩
  · cases z
  rcases bind_inv h with ⟨c, _, z⟩ | ⟨a, s1, _, h⟩
  · cases z
  obtain ⟨z, _⟩ := pure_inv h
  cases z
  rfl
theorem s_comp {elt tg iter : Expr} {ifs : List Expr} {scope : Scope} {own : List (Str × Nat)} {pos : Pos} {tgt : Tg} {ik : IK} {src conds : List TK.E} {T : TK.E} (hc : X.calm = true) (hN : X.N.Nodup) (hi : PI X tg iter (rdI X.K X.mg E Γ true ik src)) (ok : BlkOk X.N X.env.scope scope own)
    (hg : ∀ (s : Shared) (H : Hp) (C : Addr) (cl : List (Str × Addr)) (fp : List Addr), PG (X.blk s H scope (compEnvC scope cl C X.env) fp) tg (rdG X.K tgt))
    (ht : ∀ (s : Shared) (H : Hp) (C : Addr) (cl : List (Str × Addr)) (fp : List Addr), PTs (X.blk s H scope (compEnvC scope cl C X.env) fp) ifs (rdC X.K X.mg E0 Γ conds))
    (he : ∀ (s : Shared) (H : Hp) (C : Addr) (cl : List (Str × Addr)) (fp : List Addr), PE (X.blk s H scope (compEnvC scope cl C X.env) fp) elt (rd X.K X.mg E0 Γ T))
    (hsl : ∀ i ∈ slotsT tgt, i ∈ own.map (·.2)) (hs : ∀ x, foldedSetIterable iter X.env x = pure x) :
    PE X (.ListComp elt [⟨tg, iter, ifs, 0⟩] scope pos) (rd X.K X.mg E Γ (.comp (own.map (·.2)) tgt ik src conds T)) :=
  s_N2V comp_list (n_comp hc hN hi ok hg ht he hsl hs)
end
end TK
namespace TK
open PySem PySem.Spec PyProof.Rows L2
section
variable {K : PySem.W.Frag} {w : Dr} {O0 O : Addr → Bool} {H0 H H' : Hp} {σ : L2.St} {env : Env} {st st' : DSt}
theorem OwnAt.mono {O' : Addr → Bool} {p : Addr} {d : D} (h : OwnAt w O H p d) (le : Le (hid H O) (hid H' O')) (e : H' p = H p) : OwnAt w O' H' p d := by
  cases h with
  | lst a b => exact .lst (by rw [e]; exact a) (b.mono le)
  | dK a b => exact .dK (by rw [e]; exact a) (b.mono le)
  | dT a b => exact .dT (by rw [e]; exact a) (b.mono le)
/-- the slots are read otherwise -/
theorem Rel.remap (R : Rel K w O0 H0 O σ H env st) {σ' : L2.St} {env' : Env} (g : Nat → Nat) (hl : env'.length = σ'.length) (h : ∀ i s, env'[i]? = some s → s ≠ .no → ∃ j, env[j]? = some s ∧ σ'[i]? = σ[j]? ∧ g j = i) : Rel K w O0 H0 O σ' H env' st := by
  refine ⟨R.ext, R.sub, R.alc0, R.alc, R.new, R.ops, R.sts, R.scr, hl, fun i d e => ?_, fun i d e => ?_, fun i j p di dj h1 h2 h3 h4 => ?_⟩
  · obtain ⟨j, e1, e2, _⟩ := h i _ e (fun z => by cases z)
    rw [e2]
    exact R.val j d e1
  · obtain ⟨j, e1, e2, _⟩ := h i _ e (fun z => by cases z)
    rw [e2]
    exact R.own j d e1
  · obtain ⟨a, e1, e2, e3⟩ := h i _ h1 (fun z => by cases z)
    obtain ⟨b, f1, f2, f3⟩ := h j _ h2 (fun z => by cases z)
    rw [e2] at h3
    rw [f2] at h4
    rw [← e3, ← f3, R.inj a b p di dj e1 f1 h3 h4]
def subO (O : Addr → Bool) (p : Addr) : Addr → Bool := fun a => O a && !decide (a = p)
theorem subO_self {O : Addr → Bool} {p : Addr} : subO O p p = false := by simp [subO]
theorem subO_ne {O : Addr → Bool} {p a : Addr} (h : a ≠ p) : subO O p a = O a := by simp [subO, h]
theorem subO_of {O : Addr → Bool} {p a : Addr} (h : subO O p a = true) : O a = true ∧ a ≠ p := by simpa [subO] using h
/-- an own name's object is from now on only read -/
theorem Rel.frz1 (R : Rel K w O0 H0 O σ H env st) {i : Nat} {d : D} (h : env[i]? = some (Slot.own d)) : ∃ O', Rel K w O0 H0 O' σ H (env.set i (.val d)) st := by
  have hi : i < env.length := (List.getElem?_eq_some_iff.mp h).1
  obtain ⟨p, e1, e2, e3, e4⟩ := R.own i d h
  have sm : ∀ a, subO O p a = true → O a = true := fun a z => (subO_of z).1
  have le : Le (hid H O) (hid H (subO O p)) := hid_mono sm
  refine ⟨subO O p, R.ext, fun a z => ?_, R.alc0, fun a z => R.alc a (sm a z), fun a z z0 => R.new a (sm a z) z0, R.ops, R.sts, le.sqL R.scr, by rw [List.length_set]; exact R.len, fun j d' hj => ?_, fun j d' hj => ?_, fun j k q dj dk h1 h2 h3 h4 => ?_⟩
  · have ne : a ≠ p := fun q => by rw [q, e3] at z; cases z
    rw [subO_ne ne]; exact R.sub a z
  · by_cases e : i = j
    · subst e
      rw [List.getElem?_set_self hi] at hj
      cases hj
      refine ⟨_, e1, ?_⟩
      cases e4 with
      | lst a b => exact .lst (by rw [hid_of subO_self]; exact a) (b.mono le)
      | dK a b => exact .dK (.inl (by rw [hid_of subO_self]; exact a)) (b.mono le)
      | dT a b => exact .dT (.inl (by rw [hid_of subO_self]; exact a)) (b.mono le)
    · rw [List.getElem?_set_ne e] at hj
      obtain ⟨v, f1, f2⟩ := R.val j d' hj
      exact ⟨v, f1, f2.mono le⟩
  · have e : i ≠ j := fun e => by
      subst e
      rw [List.getElem?_set_self hi] at hj
      cases hj
    rw [List.getElem?_set_ne e] at hj
    obtain ⟨q, f1, f2, f3, f4⟩ := R.own j d' hj
    have ne : q ≠ p := fun z => e (R.inj i j p d d' h hj e1 (by rw [f1, z]))
    exact ⟨q, f1, by rw [subO_ne ne]; exact f2, f3, f4.mono le rfl⟩
  · have n : ∀ {m x}, (env.set i (.val d))[m]? = some (Slot.own x) → i ≠ m := fun {m x} z e => by
      subst e
      rw [List.getElem?_set_self hi] at z
      cases z
    have n1 := n h1
    have n2 := n h2
    rw [List.getElem?_set_ne n1] at h1
    rw [List.getElem?_set_ne n2] at h2
    exact R.inj j k q dj dk h1 h2 h3 h4
theorem Rel.frz (R : Rel K w O0 H0 O σ H env st) : ∀ (is : List Nat), ∃ O', Rel K w O0 H0 O' σ H (frz env is) st
  | [] => ⟨O, R⟩
  | i :: r => by
    obtain ⟨O1, R1⟩ := R.frz r
    show ∃ O', Rel K w O0 H0 O' σ H (match (TK.frz env r)[i]? with | some (.own d) => (TK.frz env r).set i (.val d) | _ => TK.frz env r) st
    split
    · exact R1.frz1 (by assumption)
    · exact ⟨O1, R1⟩
/-- what was newly made is hidden -/
theorem Rel.own_new (R : Rel K w O0 H0 O σ H env st) (P : Post O w.ps H st' H') {p : Addr} (hp : H p = none) (hp' : Al (H' p)) : Rel K w O0 H0 (addO O p) σ H' env st' := by
  have R1 := R.post P
  have oD := R.free hp
  have le : Le (hid H O) (hid H' (addO O p)) := fun a u e => by
    obtain ⟨e1, e2⟩ := hid_some e
    have ne : a ≠ p := ne_of_none e2 hp
    obtain ⟨u', f1, f2⟩ := P.1.rd a u e1 e2
    exact ⟨u', by rw [hid_of (by rw [addO_ne ne]; exact e1)]; exact f1, f2⟩
  refine ⟨R1.ext, fun a z => addO_of (R.sub a z), R.alc0, fun a z => ?_, fun a z z0 => ?_, R.ops, R1.sts, le.sqL R.scr, R.len, fun i d e => ?_, fun i d e => ?_, R.inj⟩
  · by_cases e : a = p
    · rw [e]; exact hp'
    · rw [addO_ne e] at z
      exact R1.alc a z
  · by_cases e : a = p
    · rw [e]; exact R.none0 hp
    · rw [addO_ne e] at z
      exact R.new a z z0
  · obtain ⟨v, e1, e2⟩ := R.val i d e
    exact ⟨v, e1, e2.mono le⟩
  · obtain ⟨q, e1, e2, e3, e4⟩ := R.own i d e
    have hq := R.psne e3
    refine ⟨q, e1, addO_of e2, e3, ?_⟩
    cases e4 with
    | lst a b => exact .lst (P.1.own _ _ e2 hq a) (b.mono le)
    | dK a b => exact .dK (P.1.own _ _ e2 hq a) (b.mono le)
    | dT a b => exact .dT (P.1.own _ _ e2 hq a) (b.mono le)
theorem OwnAt.alc {p : Addr} {d : D} (h : OwnAt w O H p d) : Al (H p) := by
  cases h with
  | lst a _ => rw [a]; exact trivial
  | dK a _ => rw [a]; exact trivial
  | dT a _ => rw [a]; exact trivial
/-- one more slot -/
theorem Rel.push (R : Rel K w O0 H0 O σ H env st) {v : V} {d : D} (rp : Rp w (hid H O) v d) : Rel K w O0 H0 O (σ ++ [some v]) H (env ++ [.val d]) st := by
  have hl := R.len
  have lo : ∀ {m : Nat} {s : Slot}, (env ++ [Slot.val d])[m]? = some s → (m < env.length ∧ env[m]? = some s ∧ (σ ++ [some v])[m]? = σ[m]?) ∨ (m = env.length ∧ s = .val d) := fun {m s} h => by
    by_cases hm : m < env.length
    · rw [List.getElem?_append_left hm] at h
      exact .inl ⟨hm, h, List.getElem?_append_left (by omega)⟩
    · rw [List.getElem?_append_right (by omega)] at h
      have : m - env.length = 0 := by
        have := (List.getElem?_eq_some_iff.mp h).1
        rw [List.length_singleton] at this; omega
      rw [this] at h
      cases h
      exact .inr ⟨by omega, rfl⟩
  refine ⟨R.ext, R.sub, R.alc0, R.alc, R.new, R.ops, R.sts, R.scr, by rw [List.length_append, List.length_append, hl]; rfl, fun j d' h => ?_, fun j d' h => ?_, fun j k p di dj h1 h2 h3 h4 => ?_⟩
  · rcases lo h with ⟨_, h1, h2⟩ | ⟨rfl, z⟩
    · rw [h2]; exact R.val j d' h1
    · cases z
      exact ⟨v, by rw [List.getElem?_append_right (by omega), hl, Nat.sub_self]; rfl, rp⟩
  · rcases lo h with ⟨_, h1, h2⟩ | ⟨rfl, z⟩
    · rw [h2]; exact R.own j d' h1
    · cases z
  · rcases lo h1 with ⟨_, g1, g2⟩ | ⟨_, z⟩
    · rcases lo h2 with ⟨_, g3, g4⟩ | ⟨_, z⟩
      · rw [g2] at h3
        rw [g4] at h4
        exact R.inj j k p di dj g1 g3 h3 h4
      · cases z
    · cases z
theorem Rel.pushO (R : Rel K w O0 H0 O σ H env st) {p0 : Addr} {d : D} (ho : O p0 = true) (h0 : O0 p0 = false) (hw : ∀ (i : Nat) (d : D), env[i]? = some (Slot.own d) → σ[i]? ≠ some (some (.ref p0))) (oa : OwnAt w O H p0 d) : Rel K w O0 H0 O (σ ++ [some (.ref p0)]) H (env ++ [.own d]) st := by
  have hl := R.len
  have lo : ∀ {m : Nat} {s : Slot}, (env ++ [Slot.own d])[m]? = some s → (m < env.length ∧ env[m]? = some s ∧ (σ ++ [some (V.ref p0)])[m]? = σ[m]?) ∨ (m = env.length ∧ s = .own d) := fun {m s} h => by
    by_cases hm : m < env.length
    · rw [List.getElem?_append_left hm] at h
      exact .inl ⟨hm, h, List.getElem?_append_left (by omega)⟩
    · rw [List.getElem?_append_right (by omega)] at h
      have : m - env.length = 0 := by
        have := (List.getElem?_eq_some_iff.mp h).1
        rw [List.length_singleton] at this; omega
      rw [this] at h
      cases h
      exact .inr ⟨by omega, rfl⟩
  have top : (σ ++ [some (V.ref p0)])[env.length]? = some (some (.ref p0)) := by rw [List.getElem?_append_right (by omega), hl, Nat.sub_self]; rfl
  refine ⟨R.ext, R.sub, R.alc0, R.alc, R.new, R.ops, R.sts, R.scr, by rw [List.length_append, List.length_append, hl]; rfl, fun j d' h => ?_, fun j d' h => ?_, fun j k p di dj h1 h2 h3 h4 => ?_⟩
  · rcases lo h with ⟨_, h1, h2⟩ | ⟨rfl, z⟩
    · rw [h2]; exact R.val j d' h1
    · cases z
  · rcases lo h with ⟨_, h1, h2⟩ | ⟨rfl, z⟩
    · rw [h2]; exact R.own j d' h1
    · cases z
      exact ⟨p0, top, ho, h0, oa⟩
  · rcases lo h1 with ⟨_, g1, g2⟩ | ⟨rfl, z⟩
    · rcases lo h2 with ⟨_, g3, g4⟩ | ⟨rfl, z⟩
      · rw [g2] at h3
        rw [g4] at h4
        exact R.inj j k p di dj g1 g3 h3 h4
      · rw [top] at h4
        cases h4
        rw [g2] at h3
        exact absurd h3 (hw j di g1)
    · rcases lo h2 with ⟨_, g3, g4⟩ | ⟨rfl, z⟩
      · rw [top] at h3
        cases h3
        rw [g4] at h4
        exact absurd h4 (hw k dj g3)
      · rfl
/-- a new object becomes a slot's own -/
theorem Rel.pushN (R : Rel K w O0 H0 O σ H env st) (P : Post O w.ps H st' H') {p : Addr} {d : D} (hp : H p = none) (oa : OwnAt w (addO O p) H' p d) : Rel K w O0 H0 (addO O p) (σ ++ [some (.ref p)]) H' (env ++ [.own d]) st' := by
  have oD := R.free hp
  have o0 : O0 p = false := by
    cases z : O0 p with
    | false => rfl
    | true => rw [R.sub p z] at oD; cases oD
  refine (R.own_new P hp oa.alc).pushO addO_self o0 (fun i d' h z => ?_) oa
  obtain ⟨q, e1, e2, _⟩ := R.own i d' h
  rw [z] at e1
  cases e1
  rw [oD] at e2
  cases e2
/-- an own object is written -/
theorem Rel.writeOwn (R : Rel K w O0 H0 O σ H env st) {i : Nat} {d d' : D} {p0 : Addr} {o : HO} (h : env[i]? = some (Slot.own d)) (hs : σ[i]? = some (some (.ref p0))) (oa : Le (hid H O) (hid (upd H p0 o) O) → OwnAt w O (upd H p0 o) p0 d') : Rel K w O0 H0 O σ (upd H p0 o) (env.set i (.own d')) st := by
  have hi : i < env.length := (List.getElem?_eq_some_iff.mp h).1
  obtain ⟨p, e1, e2, e3, e4⟩ := R.own i d h
  rw [hs] at e1
  cases e1
  have R1 : Rel K w O0 H0 O σ (upd H p0 o) (env.set i .no) st := by
    have R2 : Rel K w O0 H0 O σ H (env.set i .no) st := R.remap id (by rw [List.length_set]; exact R.len) fun j s hj hn => by
      by_cases e : i = j
      · subst e
        rw [List.getElem?_set_self hi] at hj
        cases hj
        exact absurd rfl hn
      · rw [List.getElem?_set_ne e] at hj
        exact ⟨j, hj, rfl, rfl⟩
    refine R2.write e2 e3 (fun j dj hj z => ?_) (by have ha := (oa (le_write e2)).alc; rw [upd_same] at ha; exact ha)
    by_cases e : i = j
    · subst e
      rw [List.getElem?_set_self hi] at hj
      cases hj
    · rw [List.getElem?_set_ne e] at hj
      exact e (R.inj i j p0 d dj h hj hs z)
  have R3 := R1.pushO e2 e3 (fun j dj hj z => by
    by_cases e : i = j
    · subst e
      rw [List.getElem?_set_self hi] at hj
      cases hj
    · rw [List.getElem?_set_ne e] at hj
      exact e (R.inj i j p0 d dj h hj hs z)) (oa (le_write e2))
  have hl := R.len
  refine R3.remap (fun j => if j = env.length then i else j) (by rw [List.length_set]; exact hl) fun j s hj hn => ?_
  by_cases e : i = j
  · subst e
    rw [List.getElem?_set_self hi] at hj
    cases hj
    refine ⟨env.length, ?_, ?_, if_pos rfl⟩
    · rw [List.getElem?_append_right (by rw [List.length_set]; omega), List.length_set, Nat.sub_self]; rfl
    · rw [List.getElem?_append_right (by omega), hl, Nat.sub_self]; exact hs
  · have hj' := hj
    rw [List.getElem?_set_ne e] at hj
    have hlt : j < env.length := (List.getElem?_eq_some_iff.mp hj).1
    refine ⟨j, ?_, ?_, if_neg (by omega)⟩
    · rw [List.getElem?_append_left (by rw [List.length_set]; exact hlt), List.getElem?_set_ne e]; exact hj
    · rw [List.getElem?_append_left (by omega)]
/-- the last slots are dropped -/
theorem Rel.drop {xs : List (Option V)} {ys : Env} (R : Rel K w O0 H0 O (σ ++ xs) H (env ++ ys) st) (hl : env.length = σ.length) : Rel K w O0 H0 O σ H env st :=
  R.remap id hl fun i s h _ => by
    have hi : i < env.length := (List.getElem?_eq_some_iff.mp h).1
    exact ⟨i, by rw [List.getElem?_append_left hi]; exact h, by rw [List.getElem?_append_left (by omega)], rfl⟩
/-- the last slot is put at i -/
theorem Rel.move {v : Option V} {s : Slot} (R : Rel K w O0 H0 O (σ ++ [v]) H (env ++ [s]) st) (hl : env.length = σ.length) {i : Nat} (hi : i < env.length) : Rel K w O0 H0 O (σ.set i v) H (env.set i s) st := by
  refine R.remap (fun j => if j = env.length then i else j) (by rw [List.length_set, List.length_set]; exact hl) fun j s' hj hn => ?_
  by_cases e : i = j
  · subst e
    rw [List.getElem?_set_self hi] at hj
    cases hj
    refine ⟨env.length, ?_, ?_, if_pos rfl⟩
    · rw [List.getElem?_append_right (Nat.le_refl _), Nat.sub_self]; rfl
    · rw [List.getElem?_set_self (by omega), List.getElem?_append_right (by omega), hl, Nat.sub_self]; rfl
  · rw [List.getElem?_set_ne e] at hj
    have hlt : j < env.length := (List.getElem?_eq_some_iff.mp hj).1
    refine ⟨j, ?_, ?_, if_neg (by omega)⟩
    · rw [List.getElem?_append_left hlt]; exact hj
    · rw [List.getElem?_set_ne e, List.getElem?_append_left (by omega)]
def baseH (H : Hp) (O O0 : Addr → Bool) : Hp := fun a => if O a = true ∧ O0 a = false then none else H a
theorem baseH_no {H : Hp} {O O0 : Addr → Bool} {a : Addr} (h : O a = true) (h0 : O0 a = false) : baseH H O O0 a = none := if_pos ⟨h, h0⟩
theorem baseH_of {H : Hp} {O O0 : Addr → Bool} {a : Addr} (h : O a = false ∨ O0 a = true) : baseH H O O0 a = H a := by
  refine if_neg fun z => ?_
  rcases h with h | h
  · rw [h] at z; cases z.1
  · rw [h] at z; cases z.2
theorem baseH_some {H : Hp} {O O0 : Addr → Bool} {a : Addr} {o : HO} (h : baseH H O O0 a = some o) : H a = some o ∧ (O a = false ∨ O0 a = true) := by
  unfold baseH at h
  split at h
  · cases h
  · rename_i z
    refine ⟨h, ?_⟩
    cases e : O a with
    | false => exact .inl rfl
    | true =>
      cases e0 : O0 a with
      | true => exact .inr rfl
      | false => exact absurd ⟨e, e0⟩ z
theorem Rel.rebase (R : Rel K w O0 H0 O σ H env st) : Rel K w O0 (baseH H O O0) O σ H env st :=
  ⟨⟨fun b o _ _ e => (baseH_some e).1, fun b o _ e => ⟨o, (baseH_some e).1, .refl o⟩⟩, R.sub, fun a h => by rw [baseH_of (.inr h)]; exact (R.alc a (R.sub a h)).ne, R.alc, fun a h h0 => baseH_no h h0, R.ops, R.sts, R.scr, R.len, R.val, R.own, R.inj⟩
theorem Rel.unbase {O1 : Addr → Bool} {H1 : Hp} {σ1 : L2.St} {env1 : Env} {st1 : DSt} (R : Rel K w O0 H0 O σ H env st) (R1 : Rel K w O0 (baseH H O O0) O1 σ1 H1 env1 st1) : Rel K w O0 H0 O1 σ1 H1 env1 st1 := by
  refine ⟨⟨fun b o h n e => R1.ext.own b o h n (by rw [baseH_of (.inr h)]; exact R.ext.own b o h n e), fun b o h e => ?_⟩, R1.sub, R.alc0, R1.alc, fun a h h0 => ?_, R.ops, R1.sts, R1.scr, R1.len, R1.val, R1.own, R1.inj⟩
  · obtain ⟨o1, e1, k1⟩ := R.ext.rd b o h e
    have ob : O b = false := by
      cases z : O b with
      | false => rfl
      | true => rw [R.new b z h] at e; cases e
    obtain ⟨o2, e2, k2⟩ := R1.ext.rd b o1 h (by rw [baseH_of (.inl ob)]; exact e1)
    exact ⟨o2, e2, k1.trans k2⟩
  · have := R1.new a h h0
    cases z : O a with
    | true => exact R.new a z h0
    | false =>
      rw [baseH_of (.inl z)] at this
      exact R.none0 this
theorem Rel.le0 (R : Rel K w O0 H0 O σ H env st) : Le (hid H0 O0) (hid H O) := fun a o e => by
  obtain ⟨e1, e2⟩ := hid_some e
  obtain ⟨o', e3, k⟩ := R.ext.rd a o e1 e2
  have oa : O a = false := by
    cases z : O a with
    | false => rfl
    | true => rw [R.new a z e1] at e2; cases e2
  exact ⟨o', by rw [hid_of oa]; exact e3, k⟩
theorem Rel.leB {O1 : Addr → Bool} {H1 : Hp} {σ1 : L2.St} {env1 : Env} {st1 : DSt} (R : Rel K w O0 H0 O σ H env st) (R1 : Rel K w O0 (baseH H O O0) O1 σ1 H1 env1 st1) : Le (hid H O) (hid H1 O1) := fun a o e => by
  obtain ⟨e1, e2⟩ := hid_some e
  refine R1.le0 a o ?_
  have : O0 a = false := by
    cases z : O0 a with
    | false => rfl
    | true => rw [R.sub a z] at e1; cases e1
  rw [hid_of this, baseH_of (.inl e1)]
  exact e2
theorem Rel.postB {H1 : Hp} {st1 : DSt} (R : Rel K w O0 H0 O σ H env st) (P : Post O0 w.ps (baseH H O O0) st1 H1) : Post O0 w.ps H0 st1 H1 := by
  refine ⟨⟨fun b o h n e => P.1.own b o h n (by rw [baseH_of (.inr h)]; exact R.ext.own b o h n e), fun b o h e => ?_⟩, P.2⟩
  obtain ⟨o1, e1, k1⟩ := R.ext.rd b o h e
  have ob : O b = false := by
    cases z : O b with
    | false => rfl
    | true => rw [R.new b z h] at e; cases e
  obtain ⟨o2, e2, k2⟩ := P.1.rd b o1 h (by rw [baseH_of (.inl ob)]; exact e1)
  exact ⟨o2, e2, k1.trans k2⟩
theorem Rel.post0 (R : Rel K w O0 H0 O σ H env st) : Post O0 w.ps H0 st H := ⟨R.ext, R.sts⟩
theorem Rel.rp0 (R : Rel K w O0 H0 O σ H env st) {v : V} {d : D} (h : Rp w (hid H O) v d) : Rp w (hid H O0) v d := h.mono (hid_mono R.sub)
end
end TK
namespace TK
open PySem PySem.Spec PyProof.Rows L2
def OutS (K : PySem.W.Frag) (mg : Str → Option Value) (E : XK) (w : Dr) (O0 : Addr → Bool) (H0 : Hp) (r : Except Str (Fl × Env)) (st' : DSt) (D : Ends) : Prop :=
  match r with
  | .ok (.nx, env') => ∀ O' σ' H', Rel K w O0 H0 O' σ' H' env' st' → D.nx σ' H'
  | .ok (.rt d, _) => ∀ v H', Post O0 w.ps H0 st' H' → Rp w (hid H' O0) v d → D.rt v H'
  | .error c => ∀ A H', mg c = some (.ref A) → Post O0 w.ps H0 st' H' → E (.ref A) none H'
section
variable (K : PySem.W.Frag) (mg : Str → Option Value) (E : XK) (Γ : List FnSem)
def rdS (T : S) : TS := fun D σ H => ∃ w O0 H0 O env st r st', Rel K w O0 H0 O σ H env st ∧ ex Γ T env st = some (r, st') ∧ OutS K mg E w O0 H0 r st' D
def rdSs (T : List S) : TS := fun D σ H => ∃ w O0 H0 O env st r st', Rel K w O0 H0 O σ H env st ∧ exs Γ T env st = some (r, st') ∧ OutS K mg E w O0 H0 r st' D
end
section
variable {K : PySem.W.Frag} {mg : Str → Option Value} {E : XK} {w : Dr} {O0 O : Addr → Bool} {H0 H : Hp} {σ : L2.St} {env : Env} {st st' : DSt} {D : Ends}
theorem OutS.err {α : Type} {c : Str} {Q : α → Hp → Prop} (R : Rel K w O0 H0 O σ H env st) (o : OutS K mg E w O0 H0 (.error c) st' D) : Out mg E O w.ps H (.error c : Except Str α) st' Q := fun A H' m p => o A H' m (R.post p).post0
theorem OutS.baseErr {c : Str} {st0 : DSt} {D' : Ends} (R : Rel K w O0 H0 O σ H env st0) (o : OutS K mg E w O0 H0 (.error c) st' D) : OutS K mg E w O0 (baseH H O O0) (.error c) st' D' := fun A H' m p => o A H' m (R.postB p)
end
section
variable {X : Cx} {E : XK} {Γ : List FnSem} {pos : Pos}
theorem x_nil : PSs X [] (rdSs X.K X.mg E Γ []) := by
  refine pss_nil.weak fun D σ H q => ?_
  obtain ⟨w, O0, H0, O, env, st, r, st', R, q, o⟩ := q
  obtain ⟨rfl, rfl⟩ := pure_inv (a := (Fl.nx, env)) q
  exact o O σ H R
theorem x_cons {s : Stmt} {ss : List Stmt} {T : S} {Ts : List S} (h1 : PS X s (rdS X.K X.mg E Γ T)) (h2 : PSs X ss (rdSs X.K X.mg E Γ Ts)) : PSs X (s :: ss) (rdSs X.K X.mg E Γ (T :: Ts)) := by
  refine (pss_cons h1 h2).weak fun D σ H q => ?_
  obtain ⟨w, O0, H0, O, env, st, r, st', R, q, o⟩ := q
  have q : (ex Γ T env >>= fun p => match p.1 with | .nx => exs Γ Ts p.2 | .rt v => (pure (.rt v, p.2) : M (Fl × Env))) st = some (r, st') := q
  rcases bind_inv q with ⟨c, g1, rfl⟩ | ⟨⟨fl, env1⟩, st1, g1, g2⟩
  · exact ⟨w, O0, H0, O, env, st, _, _, R, g1, o⟩
  · refine ⟨w, O0, H0, O, env, st, _, _, R, g1, ?_⟩
    cases fl with
    | nx => exact fun O' σ' H' R' => ⟨w, O0, H0, O', env1, st1, r, st', R', g2, o⟩
    | rt d =>
      obtain ⟨rfl, rfl⟩ := pure_inv (a := (Fl.rt d, env1)) g2
      exact o
theorem x_if {c : Expr} {a b : List Stmt} {C : TK.E} {A B : List S} (hc : PT X c (rdT X.K X.mg E Γ C)) (ha : PSs X a (rdSs X.K X.mg E Γ A)) (hb : PSs X b (rdSs X.K X.mg E Γ B)) : PS X (.If c a b pos) (rdS X.K X.mg E Γ (.ite C A B)) := by
  refine (ps_if hc ha hb).weak fun D σ H q => ?_
  obtain ⟨w, O0, H0, O, env, st, r, st', R, q, o⟩ := q
  have q : (tst Γ C env >>= fun k => if k then exs Γ A env else exs Γ B env) st = some (r, st') := q
  rcases bind_inv q with ⟨c, g1, rfl⟩ | ⟨b, st1, g1, g2⟩
  · exact ⟨w, O0, H0, O, env, st, _, _, R, g1, o.err R⟩
  · refine ⟨w, O0, H0, O, env, st, .ok b, st1, R, g1, fun H1 p => ?_⟩
    cases b with
    | true => exact ⟨w, O0, H0, O, env, st1, r, st', R.post p, g2, o⟩
    | false => exact ⟨w, O0, H0, O, env, st1, r, st', R.post p, g2, o⟩
theorem x_ret {e : Expr} {A : TK.E} (h : PE X e (rd X.K X.mg E Γ A)) : PS X (.Return (some e) pos) (rdS X.K X.mg E Γ (.ret A)) := by
  refine (ps_ret h).weak fun D σ H q => ?_
  obtain ⟨w, O0, H0, O, env, st, r, st', R, q, o⟩ := q
  have q : (ev Γ (frz env (esc A)) A >>= fun d => (pure (.rt d, frz env (esc A)) : M (Fl × Env))) st = some (r, st') := q
  obtain ⟨O1, R1⟩ := R.frz (esc A)
  rcases bind_inv q with ⟨c, g1, rfl⟩ | ⟨d, st1, g1, g2⟩
  · exact ⟨w, O0, H0, O1, _, st, _, _, R1, g1, o.err R1⟩
  · obtain ⟨rfl, rfl⟩ := pure_inv g2
    exact ⟨w, O0, H0, O1, _, st, .ok d, _, R1, g1, fun H1 p v rp => o v H1 (R1.post p).post0 ((R1.post p).rp0 rp)⟩
theorem x_exp {e : Expr} {A : TK.E} (h : PE X e (rd X.K X.mg E Γ A)) (hs : swapsWith e none pos.line X.env = pure false) : PS X (.Expr e pos) (rdS X.K X.mg E Γ (.exp A)) := by
  refine (ps_expr h hs).weak fun D σ H q => ?_
  obtain ⟨w, O0, H0, O, env, st, r, st', R, q, o⟩ := q
  have q : (ev Γ env A >>= fun _ => (pure (.nx, env) : M (Fl × Env))) st = some (r, st') := q
  rcases bind_inv q with ⟨c, g1, rfl⟩ | ⟨d, st1, g1, g2⟩
  · exact ⟨w, O0, H0, O, env, st, _, _, R, g1, o.err R⟩
  · obtain ⟨rfl, rfl⟩ := pure_inv g2
    exact ⟨w, O0, H0, O, env, st, .ok d, _, R, g1, fun H1 p v rp => o O σ H1 (R.post p)⟩
theorem setS_inv {env env' : Env} {i : Nat} {s : Slot} {st st' : DSt} {r : Except Str Env} (h : setS env i s st = some (r, st')) : i < env.length ∧ r = .ok (env.set i s) ∧ st' = st := by
  unfold setS at h
  split at h
  · obtain ⟨rfl, rfl⟩ := pure_inv h
    exact ⟨by assumption, rfl, rfl⟩
  · cases h
def rdF (K : PySem.W.Frag) (mg : Str → Option Value) (E : XK) (Γ : List FnSem) : Bool → TK.E → TE
  | true, T => rdN K mg E Γ T
  | false, T => rd K mg E Γ T
theorem ite_ok {α : Type} {b : Bool} {x : M α} {st st' : DSt} {r : Except Str α} (h : (if b then x else fail) st = some (r, st')) : b = true ∧ x st = some (r, st') := by
  cases b with
  | true => exact ⟨rfl, h⟩
  | false => cases h
theorem asg_of {K : PySem.W.Frag} {mg : Str → Option Value} {ow : Bool} {i : Nat} {A : TK.E} {te : TE} (ht : ∀ σ H Q, rdF K mg E Γ ow A σ H Q → te σ H Q) : ∀ D σ H, rdS K mg E Γ (.asg ow i A) D σ H → tAsg te (gName i) D σ H := by
  intro D σ H q
  obtain ⟨w, O0, H0, O, env, st, r, st', R, q, o⟩ := q
  have q : (ev Γ (frz env (esc A)) A >>= fun d => if ownB ow d then (setS (frz env (esc A)) i (if ow then .own d else .val d) >>= fun env2 => (pure (.nx, env2) : M (Fl × Env))) else fail) st = some (r, st') := q
  obtain ⟨O1, R1⟩ := R.frz (esc A)
  generalize frz env (esc A) = env1 at q R1
  refine ht σ H _ ?_
  have key : ∀ d st1, (if ownB ow d then (setS env1 i (if ow then .own d else .val d) >>= fun env2 => (pure (.nx, env2) : M (Fl × Env))) else fail) st1 = some (r, st') → ownB ow d = true ∧ i < env1.length ∧ st1 = st' ∧ ∀ O' σ' H', Rel K w O0 H0 O' σ' H' (env1.set i (if ow then .own d else .val d)) st' → D.nx σ' H' := by
    intro d st1 h
    obtain ⟨h1, h2⟩ := ite_ok h
    rcases bind_inv h2 with ⟨c, g1, rfl⟩ | ⟨env2, st2, g1, g2⟩
    · obtain ⟨_, z, _⟩ := setS_inv (env' := env1) g1; cases z
    · obtain ⟨h3, z, rfl⟩ := setS_inv (env' := env1) g1
      cases z
      obtain ⟨rfl, rfl⟩ := pure_inv g2
      exact ⟨h1, h3, rfl, o⟩
  rcases bind_inv q with ⟨c, g1, rfl⟩ | ⟨d, st1, g1, g2⟩
  · cases ow with
    | true => exact ⟨w, O0, H0, O1, env1, st, _, _, R1, g1, (fun d z => by cases z), o.err R1⟩
    | false => exact ⟨w, O0, H0, O1, env1, st, _, _, R1, g1, o.err R1⟩
  · obtain ⟨k1, k2, rfl, k4⟩ := key d st1 g2
    cases ow with
    | true =>
      refine ⟨w, O0, H0, O1, env1, st, .ok d, _, R1, g1, (fun d' z => by cases z; exact k1), fun H1 p a ha oa => ?_⟩
      exact k4 _ _ H1 ((R1.pushN p ha oa).move R1.len k2)
    | false =>
      refine ⟨w, O0, H0, O1, env1, st, .ok d, _, R1, g1, fun H1 p v rp => ?_⟩
      exact k4 _ _ H1 ((R1.post p).setVal k2 rp)
theorem x_asg {i : Nat} {x : Str} {e : Expr} {ow : Bool} {A : TK.E} {pos' : Pos} (hN : X.N.Nodup) (hi : X.N[i]? = some x) (hx : Loc X.env.scope x) (he : PE X e (rdF X.K X.mg E Γ ow A)) (hs : swapsWith e (some (.Name x pos')) pos.line X.env = pure false) (hf : X.fn x = true ∨ X.env.scope.names.lookup x = some .local) :
    PS X (.Assign [.Name x pos'] e pos) (rdS X.K X.mg E Γ (.asg ow i A)) := (ps_set hN hi hx he hs hf).weak (asg_of fun _ _ _ q => q)
theorem x_asgLc {i : Nat} {y : Str} {py : Pos} {elt tg iter : Expr} {ifs : List Expr} {scope : Scope} {own : List (Str × Nat)} {pos spos : Pos} {ow : Bool} {tgt : Tg} {ik : IK} {src conds : List TK.E} {T : TK.E} (hc : X.calm = true) (hN : X.N.Nodup) (hy : X.N[i]? = some y) (hyl : X.env.scope.names.lookup y = some .local)
    (hsw : swapsWith (.ListComp elt [⟨tg, iter, ifs, 0⟩] scope pos) (some (.Name y py)) spos.line X.env = pure true) (hi : PI X tg iter (rdI X.K X.mg E Γ true ik src)) (ok : BlkOk X.N X.env.scope scope own)
    (hg : ∀ (s : Shared) (H : Hp) (C : Addr) (cl : List (Str × Addr)) (fp : List Addr), PG (X.blk s H scope (compEnvC scope cl C X.env) fp) tg (rdG X.K tgt))
    (ht : ∀ (s : Shared) (H : Hp) (C : Addr) (cl : List (Str × Addr)) (fp : List Addr), PTs (X.blk s H scope (compEnvC scope cl C X.env) fp) ifs (rdC X.K X.mg E0 Γ conds))
    (he : ∀ (s : Shared) (H : Hp) (C : Addr) (cl : List (Str × Addr)) (fp : List Addr), PE (X.blk s H scope (compEnvC scope cl C X.env) fp) elt (rd X.K X.mg E0 Γ T))
    (hsl : ∀ i ∈ slotsT tgt, i ∈ own.map (·.2)) (hs : ∀ x, foldedSetIterable iter X.env x = pure x) :
    PS X (.Assign [.Name y py] (.ListComp elt [⟨tg, iter, ifs, 0⟩] scope pos) spos) (rdS X.K X.mg E Γ (.asg ow i (.comp (own.map (·.2)) tgt ik src conds T))) := by
  refine (ps_setLc hc hN hy hyl hsw hi ok hg ht he hs).weak (asg_of fun σ H Q q => tlc_of hsl σ H Q ?_)
  cases ow with
  | true => exact q
  | false =>
    obtain ⟨w, O0, H0, O, env, st, rr, st', R, q, oo⟩ := q
    refine ⟨w, O0, H0, O, env, st, rr, st', R, q, comp_list _ _ _ _ q, ?_⟩
    cases rr with
    | ok d => exact fun H' p a ha b => oo H' p _ (b.rp (R.free ha))
    | error c => exact oo
/-- names = value, unpacked -/
theorem x_unp {tg e : Expr} {tgt : Tg} {A : TK.E} (he : PE X e (rd X.K X.mg E Γ A)) (hg : PG X tg (rdG X.K tgt)) (hs : swapsWithSole [tg] e pos.line X.env = pure false) (hw : swappedStores [tg] e X.env = pure none) (h1 : (assignEach [tg] X.env).map (·.2) = [assign tg X.env]) :
    PS X (.Assign [tg] e pos) (rdS X.K X.mg E Γ (.unp tgt A)) := by
  refine (ps_asg he hg hs hw h1).weak fun D σ H q => ?_
  obtain ⟨w, O0, H0, O, env, st, r, st', R, q, o⟩ := q
  have q : (ev Γ (frz env (esc A)) A >>= fun d => liftO (asgT tgt d (frz env (esc A))) >>= fun env2 => (pure (.nx, env2) : M (Fl × Env))) st = some (r, st') := q
  obtain ⟨O1, R1⟩ := R.frz (esc A)
  generalize frz env (esc A) = env1 at q R1
  rcases bind_inv q with ⟨c, g1, rfl⟩ | ⟨d, st1, g1, g2⟩
  · exact ⟨w, O0, H0, O1, env1, st, _, _, R1, g1, o.err R1⟩
  · refine ⟨w, O0, H0, O1, env1, st, .ok d, _, R1, g1, fun H1 p v rp => ?_⟩
    rcases bind_inv g2 with ⟨c, g3, rfl⟩ | ⟨env2, st2, g3, g4⟩
    · obtain ⟨_, _, z, _⟩ := liftO_inv g3; cases z
    · obtain ⟨_, h3, z, rfl⟩ := liftO_inv g3
      cases z
      obtain ⟨rfl, rfl⟩ := pure_inv g4
      exact ⟨w, O0, H0, O1, env1, _, d, env2, R1.post p, rp, h3, fun σ' R2 _ => o _ σ' H1 R2⟩
def slotF (o : Bool) (d : D) : Slot := if o then .own d else .val d
def slotFs : List Bool → List D → Env
  | o :: os, d :: ds => slotF o d :: slotFs os ds
  | _, _ => []
def rdP (K : PySem.W.Frag) (mg : Str → Option Value) (E : XK) (Γ : List FnSem) (fs : List Bool) (Ts : List TK.E) : TA := fun σ H Q => ∃ w O0 H0 O env st r st' xs ys, Rel K w O0 H0 O (σ ++ xs) H (env ++ ys) st ∧ env.length = σ.length ∧ evsP Γ env fs Ts st = some (r, st') ∧
  match r with
  | .ok ds => ∀ O' H' vs, Rel K w O0 H0 O' (σ ++ (xs ++ vs.map some)) H' (env ++ (ys ++ slotFs fs ds)) st' → Q vs H'
  | .error c => ∀ A H', mg c = some (.ref A) → Post O0 w.ps H0 st' H' → E (.ref A) none H'
theorem p_nil : PA X [] (rdP X.K X.mg E Γ [] []) := by
  refine pa_nil.weak fun σ H Q q => ?_
  obtain ⟨w, O0, H0, O, env, st, r, st', xs, ys, R, hl, q, o⟩ := q
  obtain ⟨rfl, rfl⟩ := pure_inv (a := ([] : List D)) q
  exact o O H [] (by rw [List.map_nil, List.append_nil]; show Rel _ _ _ _ _ _ _ (env ++ (ys ++ [])) _; rw [List.append_nil]; exact R)
theorem p_cons {e : Expr} {es : List Expr} {f : Bool} {fs : List Bool} {T : TK.E} {Ts : List TK.E} (h : PE X e (rdF X.K X.mg E Γ f T)) (hs : PA X es (rdP X.K X.mg E Γ fs Ts)) (hst : notStar e = true) : PA X (e :: es) (rdP X.K X.mg E Γ (f :: fs) (T :: Ts)) := by
  refine (pa_cons h hs (star_ok hst)).weak fun σ H Q q => ?_
  obtain ⟨w, O0, H0, O, env, st, r, st', xs, ys, R, hl, q, o⟩ := q
  have q : (ev Γ env T >>= fun d => if ownB f d then (evsP Γ env fs Ts >>= fun ds => (pure (d :: ds) : M (List D))) else fail) st = some (r, st') := q
  have Rd := R.drop hl
  rcases bind_inv q with ⟨c, g1, rfl⟩ | ⟨d, st1, g1, g2⟩
  · have oe : ∀ {Q : D → Hp → Prop}, Out X.mg E O w.ps H (.error c : Except Str D) st' Q := fun A H' m p => o A H' m (Rd.post p).post0
    cases f with
    | true => exact ⟨w, O0, H0, O, env, st, .error c, _, Rd, g1, (fun d z => by cases z), oe⟩
    | false => exact ⟨w, O0, H0, O, env, st, .error c, _, Rd, g1, oe⟩
  · obtain ⟨ob, g2⟩ := ite_ok g2
    have go : ∀ {H1 : Hp} {O1 : Addr → Bool} {v : V}, Rel X.K w O0 H0 O1 (σ ++ (xs ++ [some v])) H1 (env ++ (ys ++ [slotF f d])) st1 → rdP X.K X.mg E Γ fs Ts σ H1 fun vs H2 => Q (v :: vs) H2 := fun {H1 O1 v} R1 => by
      rcases bind_inv g2 with ⟨c, g3, rfl⟩ | ⟨ds, st2, g3, g4⟩
      · exact ⟨w, O0, H0, O1, env, st1, .error c, st', _, _, R1, hl, g3, o⟩
      · obtain ⟨rfl, rfl⟩ := pure_inv g4
        exact ⟨w, O0, H0, O1, env, st1, .ok ds, _, _, _, R1, hl, g3, fun O' H' vs R2 => o O' H' (v :: vs) (by
          rw [List.append_assoc, List.append_assoc] at R2
          exact R2)⟩
    cases f with
    | true => exact ⟨w, O0, H0, O, env, st, .ok d, _, Rd, g1, (fun d' z => by cases z; exact ob), fun H1 p a ha oa => go (by
        have := R.pushN p ha oa
        rw [List.append_assoc, List.append_assoc] at this
        exact this)⟩
    | false => exact ⟨w, O0, H0, O, env, st, .ok d, _, Rd, g1, fun H1 p v rp => go (by
        have := (R.post p).push rp
        rw [List.append_assoc, List.append_assoc] at this
        exact this)⟩
/-- the last slots are put where they belong -/
theorem Rel.moves {K : PySem.W.Frag} {w : Dr} {O0 O : Addr → Bool} {H0 H : Hp} {st st1 st2 : DSt} : ∀ {is : List (Nat × Bool)} {vs : List V} {ds : List D} {σ : L2.St} {env : Env} {r : Except Str Env}, Rel K w O0 H0 O (σ ++ vs.map some) H (env ++ slotFs (is.map (·.2)) ds) st → env.length = σ.length → vs.length = ds.length → setAll is ds env st1 = some (r, st2) →
    ∃ env', r = .ok env' ∧ st2 = st1 ∧ Rel K w O0 H0 O ((is.zip vs).foldl (fun s p => s.set p.1.1 (some p.2)) σ) H env' st
  | [], [], [], σ, env, r, R, hl, _, h => by
    obtain ⟨rfl, rfl⟩ := pure_inv (a := env) h
    exact ⟨env, rfl, rfl, R.drop hl⟩
  | [], _ :: _, [], _, _, _, _, _, h0, _ => by cases h0
  | [], _, _ :: _, _, _, _, _, _, _, h => by cases h
  | _ :: _, _, [], _, _, _, _, _, _, h => by cases h
  | _ :: _, [], _ :: _, _, _, _, _, _, h0, _ => by cases h0
  | (i, o) :: is, v :: vs, d :: ds, σ, env, r, R, hl, h0, h => by
    have h : (setS env i (slotF o d) >>= fun env1 => setAll is ds env1) st1 = some (r, st2) := h
    rcases bind_inv h with ⟨c, g1, rfl⟩ | ⟨env1, st3, g1, g2⟩
    · obtain ⟨_, z, _⟩ := setS_inv (env' := env) g1; cases z
    · obtain ⟨hi, z, rfl⟩ := setS_inv (env' := env) g1
      cases z
      have R1 : Rel K w O0 H0 O (σ.set i (some v) ++ vs.map some) H (env.set i (slotF o d) ++ slotFs (is.map (·.2)) ds) st := by
        refine R.remap (fun j => if j < env.length then j else if j = env.length then i else j - 1) ?_ fun j s hj hn => ?_
        · have := R.len
          simp only [List.length_append, List.length_map, List.map_cons, slotFs, List.length_cons, List.length_set] at this ⊢
          omega
        · by_cases hlt : j < env.length
          · rw [List.getElem?_append_left (by rw [List.length_set]; exact hlt)] at hj
            rw [List.getElem?_append_left (by rw [List.length_set]; omega)]
            by_cases e : i = j
            · subst e
              rw [List.getElem?_set_self hi] at hj
              cases hj
              refine ⟨env.length, ?_, ?_, ?_⟩
              · rw [List.getElem?_append_right (Nat.le_refl _), Nat.sub_self]; rfl
              · rw [List.getElem?_set_self (by omega), List.getElem?_append_right (by omega), hl, Nat.sub_self]; rfl
              · simp
            · rw [List.getElem?_set_ne e] at hj ⊢
              refine ⟨j, by rw [List.getElem?_append_left hlt]; exact hj, by rw [List.getElem?_append_left (by omega)], if_pos hlt⟩
          · rw [List.getElem?_append_right (by rw [List.length_set]; omega), List.length_set] at hj
            rw [List.getElem?_append_right (by rw [List.length_set]; omega), List.length_set]
            refine ⟨j + 1, ?_, ?_, ?_⟩
            · rw [List.getElem?_append_right (by omega), show j + 1 - env.length = (j - env.length) + 1 by omega]
              exact hj
            · rw [List.getElem?_append_right (by omega), show j + 1 - σ.length = (j - σ.length) + 1 by omega]
              rfl
            · show (if j + 1 < env.length then j + 1 else if j + 1 = env.length then i else j + 1 - 1) = j
              rw [if_neg (by omega), if_neg (by omega)]
              omega
      exact R1.moves (by rw [List.length_set, List.length_set]; exact hl) (Nat.succ.inj h0) g2
theorem par_of {K : PySem.W.Frag} {mg : Str → Option Value} {is : List (Nat × Bool)} {As : List TK.E} {ta : TA} (ht : ∀ σ H Q, rdP K mg E Γ (is.map (·.2)) As σ H Q → ta σ H Q) {D : Ends} {σ : L2.St} {H : Hp} {Q : List V → Hp → Prop} (q : rdS K mg E Γ (.par is As) D σ H)
    (hQ : ∀ vs H1, vs.length = is.length → D.nx ((is.zip vs).foldl (fun s p => s.set p.1.1 (some p.2)) σ) H1 → (∀ p o, H1 p = none → D.nx ((is.zip vs).foldl (fun s p => s.set p.1.1 (some p.2)) σ) (upd H1 p o)) → Q vs H1) : ta σ H Q := by
  obtain ⟨w, O0, H0, O, env, st, r, st', R, q, o⟩ := q
  have q : (evsP Γ (frz env (escs As)) (is.map (·.2)) As >>= fun ds => setAll is ds (frz env (escs As)) >>= fun env2 => (pure (.nx, env2) : M (Fl × Env))) st = some (r, st') := q
  obtain ⟨O1, R1⟩ := R.frz (escs As)
  generalize frz env (escs As) = env1 at q R1
  refine ht σ H _ ?_
  rcases bind_inv q with ⟨c, g1, rfl⟩ | ⟨ds, st1, g1, g2⟩
  · exact ⟨w, O0, H0, O1, env1, st, .error c, st', [], [], by rw [List.append_nil, List.append_nil]; exact R1, R1.len, g1, o⟩
  · refine ⟨w, O0, H0, O1, env1, st, .ok ds, st1, [], [], by rw [List.append_nil, List.append_nil]; exact R1, R1.len, g1, fun O' H' vs R2 => ?_⟩
    rw [List.nil_append, List.nil_append] at R2
    have lens : ∀ {fs : List Bool} {As : List TK.E} {st st1 : DSt} {ds : List TK.D}, evsP Γ env1 fs As st = some (.ok ds, st1) → fs.length = As.length ∧ ds.length = As.length := by
      intro fs
      induction fs with
      | nil =>
        intro As st st1 ds h
        cases As with
        | nil => cases h; exact ⟨rfl, rfl⟩
        | cons a as => cases h
      | cons f fs ih =>
        intro As st st1 ds h
        cases As with
        | nil => cases h
        | cons a as =>
          have h : (ev Γ env1 a >>= fun d => if ownB f d then (evsP Γ env1 fs as >>= fun ds => (pure (d :: ds) : M (List TK.D))) else fail) st = some (.ok ds, st1) := h
          rcases bind_inv h with ⟨c, _, z⟩ | ⟨d, s1, _, h⟩
          · cases z
          obtain ⟨_, h⟩ := ite_ok h
          rcases bind_inv h with ⟨c, _, z⟩ | ⟨d, s1, h1, h⟩
          · cases z
          obtain ⟨z, _⟩ := pure_inv h
          cases z
          obtain ⟨e1, e2⟩ := ih h1
          exact ⟨by rw [List.length_cons, List.length_cons, e1], by rw [List.length_cons, List.length_cons, e2]⟩
    obtain ⟨l1, l2⟩ := lens g1
    rw [List.length_map] at l1
    have slen : ∀ {fs : List Bool} {ds : List TK.D}, fs.length = ds.length → (slotFs fs ds).length = ds.length := by
      intro fs
      induction fs with
      | nil => intro ds h; cases ds <;> first | rfl | cases h
      | cons f fs ih =>
        intro ds h
        cases ds with
        | nil => cases h
        | cons d ds => show (slotFs fs ds).length + 1 = _; rw [ih (Nat.succ.inj h)]; rfl
    have hv : vs.length = ds.length := by
      have h1 := R2.len
      rw [List.length_append, List.length_append, List.length_map, slen (by rw [List.length_map]; omega)] at h1
      have h2 := R1.len
      omega
    rcases bind_inv g2 with ⟨c, g3, rfl⟩ | ⟨env2, st2, g3, g4⟩
    · obtain ⟨_, z, _⟩ := R2.moves R1.len hv g3; cases z
    · obtain ⟨_, z, rfl, R3⟩ := R2.moves R1.len hv g3
      cases z
      obtain ⟨rfl, rfl⟩ := pure_inv g4
      exact hQ vs H' (by omega) (o _ _ _ R3) fun p o' hp => o _ _ _ (R3.post (R3.post_new hp))
theorem x_par2 {i j : Nat} {x y : Str} {a b : Expr} {o1 o2 : Bool} {A B : TK.E} {px py pt : Pos} {kt k2 pt2} (hc : X.calm = true) (hN : X.N.Nodup) (hi : X.N[i]? = some x) (hj : X.N[j]? = some y) (hij : i ≠ j)
    (hx : X.env.scope.names.lookup x = some .local) (hy : X.env.scope.names.lookup y = some .local) (ha : PA X [a, b] (rdP X.K X.mg E Γ [o1, o2] [A, B]))
    (hw : swappedStores [.Tuple [.Name x px, .Name y py] kt pt] (.Tuple [a, b] k2 pt2) X.env = pure (some [x, y])) :
    PS X (.Assign [.Tuple [.Name x px, .Name y py] kt pt] (.Tuple [a, b] k2 pt2) pos) (rdS X.K X.mg E Γ (.par [(i, o1), (j, o2)] [A, B])) := by
  refine (ps_par hc hN hi hj hij hx hy ha hw rfl).weak fun D σ H q => par_of (is := [(i, o1), (j, o2)]) (fun _ _ _ z => z) q fun vs H1 hl hn _ => ?_
  match vs, hl, hn with
  | [v, u], _, hn => exact ⟨v, u, rfl, hn⟩
theorem x_for {tg iter : Expr} {body : List Stmt} {tgt : Tg} {ik : IK} {src : List TK.E} {B : List S} (hp : PassesOwn (model X.prog X.w) X.A X.env X.xe) (hc : X.calm = true) (hi : PI X tg iter (rdI X.K X.mg E Γ false ik src)) (hg : PG X tg (rdG X.K tgt)) (hb : PSs X body (rdSs X.K X.mg E Γ B))
    (hs : ∀ x, foldedSetIterable iter X.env x = pure x) : PS X (.For tg iter body [] pos) (rdS X.K X.mg E Γ (.for tgt ik src B)) := by
  refine (ps_for hp hc hi hg hb hs).weak fun D σ H q => ?_
  obtain ⟨w, O0, H0, O, env, st, r, st', R, q, o⟩ := q
  have q : (evs Γ (frz env (escs src)) src >>= fun ds => liftO (walkL ik ds) >>= fun items => forL tgt (exs Γ B) items (frz env (escs src))) st = some (r, st') := q
  obtain ⟨O1, R1⟩ := R.frz (escs src)
  generalize frz env (escs src) = env1 at q R1
  have q : ((evs Γ env1 src >>= fun ds => liftO (walkL ik ds)) >>= fun items => forL tgt (exs Γ B) items env1) st = some (r, st') := by rw [bind_assoc']; exact q
  rcases bind_inv q with ⟨c, g1, rfl⟩ | ⟨items, st1, g1, g2⟩
  · exact ⟨w, O0, H0, O1, env1, st, .error c, _, R1, g1, o.err R1⟩
  · refine ⟨w, O0, H0, O1, env1, st, .ok items, st1, R1, g1, fun H1 p1 J hJ hlen => ?_⟩
    obtain ⟨objs, Y, hat, wk, yok, kinds⟩ := hJ
    have R2 := R1.post p1
    refine ⟨fun i m σ' H' => m = items.length - i ∧ i ≤ items.length ∧ ∃ Oi envi sti, Rel X.K w O0 (baseH H1 O1 O0) Oi σ' H' envi sti ∧ forL tgt (exs Γ B) (items.drop i) envi sti = some (r, st'), ⟨_, rfl, Nat.zero_le _, O1, env1, st1, R2.rebase, g2⟩, ?_⟩
    rintro i m σi Hi ⟨rfl, hi, Oi, envi, sti, Ri, fi⟩
    have le := R2.leB Ri
    have at' : AtO objs Hi ∧ SqL X.K Hi w.sa (w.ns.map V.int) := ⟨fun p hp => by
      obtain ⟨_, k2, k3⟩ := kinds p hp
      have h1 : hid H1 O1 p.1 = some p.2 := by rw [hid_of (k2 rfl)]; exact hat p hp
      rcases k3 with ⟨xs, e⟩ | ⟨xs, e⟩ | ⟨od, u, e, _⟩
      · rw [e] at h1 ⊢
        exact (hid_some (le.lst h1)).2
      · rw [e] at h1 ⊢
        exact (hid_some (le.tup h1)).2
      · rw [e] at h1 ⊢
        exact (hid_some (le.frz h1)).2, hid_le.sqL Ri.scr⟩
    by_cases hlt : i < items.length
    · right
      refine ⟨wk.goes i Hi hlt at', fun σ' H' => ∃ Oj envj stj, Rel X.K w O0 (baseH H1 O1 O0) Oj σ' H' envj stj ∧ forL tgt (exs Γ B) (items.drop (i + 1)) envj stj = some (r, st'), fun σ' H' ⟨Oj, envj, stj, Rj, fj⟩ => ⟨_, ?_, rfl, hlt, Oj, envj, stj, Rj, fj⟩, fun x H' y => ?_⟩
      · omega
      · obtain ⟨alloc, d, hd, rp⟩ := yok i Hi x H' Oi hlt (wk.yields i Hi x H' hlt at' y) le Ri.alc
        have Rj : Rel X.K w O0 (baseH H1 O1 O0) Oi σi H' envi sti := Ri.post (Ri.postN alloc)
        have hdrop : items.drop i = d :: items.drop (i + 1) := List.drop_eq_getElem?_toList_append.trans (by rw [hd]; rfl)
        rw [hdrop] at fi
        have fi : (liftO (asgT tgt d envi) >>= fun env1 => exs Γ B env1 >>= fun p => match p.1 with | .nx => forL tgt (exs Γ B) (items.drop (i + 1)) p.2 | .rt v => (pure (.rt v, p.2) : M (Fl × Env))) sti = some (r, st') := fi
        rcases bind_inv fi with ⟨c, g3, rfl⟩ | ⟨env2, st2, g3, g4⟩
        · obtain ⟨_, _, z, _⟩ := liftO_inv g3; cases z
        obtain ⟨_, hasg, z, rfl⟩ := liftO_inv g3
        cases z
        refine ⟨w, O0, _, Oi, envi, _, d, env2, Rj, rp, hasg, fun σ2 R3 _ => ?_⟩
        rcases bind_inv g4 with ⟨c, g5, rfl⟩ | ⟨⟨fl, env3⟩, st3, g5, g6⟩
        · exact ⟨w, O0, _, Oi, env2, _, .error c, _, R3, g5, o.baseErr R2⟩
        · refine ⟨w, O0, _, Oi, env2, _, .ok (fl, env3), st3, R3, g5, ?_⟩
          cases fl with
          | nx => exact fun O' σ' H'' R4 => ⟨O', env3, st3, R4, g6⟩
          | rt v =>
            obtain ⟨rfl, rfl⟩ := pure_inv (a := (Fl.rt v, env3)) g6
            exact fun v' H'' P rp' => o v' H'' (R2.postB P) rp'
    · left
      obtain rfl : i = items.length := by omega
      rw [List.drop_length] at fi
      obtain ⟨rfl, rfl⟩ := pure_inv (a := (Fl.nx, envi)) fi
      exact ⟨wk.stops Hi at', o _ _ _ (R2.unbase Ri)⟩
theorem x_while {c : Expr} {body : List Stmt} {C : TK.E} {B : List S} (hp : PassesOwn (model X.prog X.w) X.A X.env X.xe) (hc : PT X c (rdT X.K X.mg E Γ C)) (hb : PSs X body (rdSs X.K X.mg E Γ B)) : PS X (.While c body [] pos) (rdS X.K X.mg E Γ (.while C B)) := by
  refine (ps_while hp hc hb).weak fun D σ H q => ?_
  obtain ⟨w, O0, H0, O, env, st, r, st', R, q, o⟩ := q
  have q : whL (tst Γ C) (exs Γ B) fuel env st = some (r, st') := q
  refine ⟨fun m σ' H' => ∃ Oi envi sti, Rel X.K w O0 H0 Oi σ' H' envi sti ∧ whL (tst Γ C) (exs Γ B) m envi sti = some (r, st'), ⟨fuel, O, env, st, R, q⟩, ?_⟩
  rintro m σi Hi ⟨Oi, envi, sti, Ri, fi⟩
  cases m with
  | zero => cases fi
  | succ m =>
    have fi : (tst Γ C envi >>= fun k => if k then (exs Γ B envi >>= fun p => match p.1 with | .nx => whL (tst Γ C) (exs Γ B) m p.2 | .rt v => (pure (.rt v, p.2) : M (Fl × Env))) else pure (.nx, envi)) sti = some (r, st') := fi
    rcases bind_inv fi with ⟨c, g1, rfl⟩ | ⟨b, st1, g1, g2⟩
    · exact ⟨w, O0, H0, Oi, envi, sti, .error c, _, Ri, g1, o.err Ri⟩
    · refine ⟨w, O0, H0, Oi, envi, sti, .ok b, st1, Ri, g1, fun H1 p => ?_⟩
      have R1 := Ri.post p
      cases b with
      | false =>
        obtain ⟨rfl, rfl⟩ := pure_inv (a := (Fl.nx, envi)) g2
        exact o _ _ _ R1
      | true =>
        refine ⟨fun σ' H' => ∃ Oi envi sti, Rel X.K w O0 H0 Oi σ' H' envi sti ∧ whL (tst Γ C) (exs Γ B) m envi sti = some (r, st'), fun σ' H' h => ⟨m, Nat.lt_succ_self m, h⟩, ?_⟩
        rcases bind_inv g2 with ⟨c, g5, rfl⟩ | ⟨⟨fl, env3⟩, st3, g5, g6⟩
        · exact ⟨w, O0, H0, Oi, envi, st1, .error c, _, R1, g5, o⟩
        · refine ⟨w, O0, H0, Oi, envi, st1, .ok (fl, env3), st3, R1, g5, ?_⟩
          cases fl with
          | nx => exact fun O' σ' H'' R4 => ⟨O', env3, st3, R4, g6⟩
          | rt v =>
            obtain ⟨rfl, rfl⟩ := pure_inv (a := (Fl.rt v, env3)) g6
            exact o
end
end TK
namespace TK
open PySem PySem.Spec PyProof.Rows L2
section
variable {X : Cx} {E : XK} {Γ : List FnSem} {pos apos cpos : Pos}
theorem ownL_inv {env : Env} {i : Nat} {l : List D} (h : ownL env i = some l) : env[i]? = some (.own (.list l)) := by
  unfold ownL at h
  split at h
  · cases h; assumption
  · cases h
theorem few_ok {X : Cx} {e : Expr} {cpos : Pos} (hs : notStar e = true) : ((backTo cpos (starEach [e] X.env)).all (fun x => !x.1) && (backToKw cpos (keywordEach [] X.env)).all (fun x => x.1.isSome)
      && decide (([e] : List Expr).length + ([] : List Keyword).length + (if ([] : List Keyword).isEmpty then 0 else 1) < 30)) = true := by
  rw [star_ok hs]; rfl
theorem x_append {x : Str} {i : Nat} {e : Expr} {A : TK.E} {p0 : Pos} (hN : X.N[i]? = some x) (hv : Vis X.env.scope x) (hd : (x == ("__debug__" : Str)) = false) (hcd : (x == ("__classdict__" : Str)) = false) (he : PE X e (rd X.K X.mg E Γ A)) (hs : notStar e = true)
    (hbase : attributeBase (.Name x p0) "append" X.env (eval (.Name x p0) X.env) = eval (.Name x p0) X.env) (hline : (apos.endLine == cpos.line) = true) :
    PS X (.Expr (.Call (.Attribute (.Name x p0) "append" apos) [e] [] cpos) pos) (rdS X.K X.mg E Γ (.append i A)) := by
  refine (ps_expr (pe_bm PySem.F.plainAttrs_list PySem.F.slot_list_append rfl mt_append (pe_var hN hv hd hcd) (pa_cons he pa_nil (star_ok hs)) hbase (few_ok hs) hline (star_ok hs) rfl) rfl).weak fun D σ H q => ?_
  obtain ⟨w, O0, H0, O, env, st, r, st', R, q, o⟩ := q
  have q : (liftO (ownL (frz env (esc A)) i) >>= fun l => ev Γ (frz env (esc A)) A >>= fun d => if l.length < lim then (pure (.nx, (frz env (esc A)).set i (.own (.list (l ++ [d])))) : M (Fl × Env)) else fail) st = some (r, st') := q
  obtain ⟨O1, R1⟩ := R.frz (esc A)
  generalize frz env (esc A) = env1 at q R1
  rcases bind_inv q with ⟨c, g1, rfl⟩ | ⟨l, st1, g1, g2⟩
  · obtain ⟨_, _, z, _⟩ := liftO_inv g1; cases z
  obtain ⟨_, hl, z, rfl⟩ := liftO_inv g1
  cases z
  have hl := ownL_inv hl
  obtain ⟨p, e1, e2, e3, e4⟩ := R1.own i _ hl
  cases e4 with
  | lst a b =>
    refine ⟨_, e1, .inl ⟨rfl, _, SqL.of a⟩, ?_⟩
    rcases bind_inv g2 with ⟨c, g3, rfl⟩ | ⟨d, st2, g3, g4⟩
    · exact ⟨w, O0, H0, O1, env1, _, .error c, _, R1, g3, o.err R1⟩
    · refine ⟨w, O0, H0, O1, env1, _, .ok d, st2, R1, g3, fun H1 p1 v rp => ?_⟩
      have R2 := R1.post p1
      split at g4
      · rename_i hlt
        obtain ⟨rfl, rfl⟩ := pure_inv g4
        have a' := p1.1.own p _ e2 (R1.psne e3) a
        have b' := b.mono p1.1.le
        refine ⟨p, _, v, rfl, rfl, a', by rw [b.length]; exact hlt, o _ _ _ (R2.writeOwn hl e1 fun le => .lst upd_same ((b'.append (.cons rp .nil)).mono le))⟩
      · cases g4
theorem x_appPop {x y : Str} {i j : Nat} {e : Expr} {A : TK.E} {p0 p1 apos2 cpos2 : Pos} (hN : X.N[i]? = some x) (hv : Vis X.env.scope x) (hd : (x == ("__debug__" : Str)) = false) (hcd : (x == ("__classdict__" : Str)) = false)
    (hN2 : X.N[j]? = some y) (hv2 : Vis X.env.scope y) (hd2 : (y == ("__debug__" : Str)) = false) (hcd2 : (y == ("__classdict__" : Str)) = false) (he : PE X e (rd X.K X.mg E Γ A)) (hs : notStar e = true)
    (hbase : attributeBase (.Name x p0) "append" X.env (eval (.Name x p0) X.env) = eval (.Name x p0) X.env) (hline : (apos.endLine == cpos.line) = true)
    (hbase2 : attributeBase (.Name y p1) "pop" X.env (eval (.Name y p1) X.env) = eval (.Name y p1) X.env) (hline2 : (apos2.endLine == cpos2.line) = true) :
    PS X (.Expr (.Call (.Attribute (.Name x p0) "append" apos) [.Call (.Attribute (.Name y p1) "pop" apos2) [e] [] cpos2] [] cpos) pos) (rdS X.K X.mg E Γ (.appPop i j A)) := by
  refine (ps_expr (pe_bm PySem.F.plainAttrs_list PySem.F.slot_list_append rfl mt_append (pe_var hN hv hd hcd) (pa_cons (pe_bm PySem.F.plainAttrs_list PySem.F.slot_list_pop rfl mt_popAt (pe_var hN2 hv2 hd2 hcd2) (pa_cons he pa_nil (star_ok hs)) hbase2 (few_ok hs) hline2 (star_ok hs) rfl) pa_nil (star_ok rfl)) hbase (few_ok rfl) hline (star_ok rfl) rfl) rfl).weak fun D σ H q => ?_
  obtain ⟨w, O0, H0, O, env, st, r, st', R, q, o⟩ := q
  have q : (liftO (ownL env i) >>= fun l => liftO (ownL env j) >>= fun m => ev Γ env A >>= fun d => (match d with
    | .int n => if 0 ≤ n ∧ n < 1000000000 ∧ l.length < lim ∧ i ≠ j then (match m[n.toNat]? with
        | some x => (pure (.nx, (env.set j (.own (.list (m.eraseIdx n.toNat)))).set i (.own (.list (l ++ [x])))) : M (Fl × Env))
        | none => fail) else fail
    | _ => fail)) st = some (r, st') := q
  rcases bind_inv q with ⟨c, g1, rfl⟩ | ⟨l, st1, g1, g2⟩
  · obtain ⟨_, _, z, _⟩ := liftO_inv g1; cases z
  obtain ⟨_, hl, z, rfl⟩ := liftO_inv g1
  cases z
  rcases bind_inv g2 with ⟨c, g1, rfl⟩ | ⟨m, st1, g1, g3⟩
  · obtain ⟨_, _, z, _⟩ := liftO_inv g1; cases z
  obtain ⟨_, hm, z, rfl⟩ := liftO_inv g1
  cases z
  have hl := ownL_inv hl
  have hm := ownL_inv hm
  obtain ⟨p, e1, e2, e3, e4⟩ := R.own i _ hl
  obtain ⟨p', f1, f2, f3, f4⟩ := R.own j _ hm
  cases e4 with
  | @lst ws _ a b =>
    cases f4 with
    | @lst zs _ a2 b2 =>
      refine ⟨_, e1, .inl ⟨rfl, _, SqL.of a⟩, _, f1, .inl ⟨rfl, _, SqL.of a2⟩, ?_⟩
      rcases bind_inv g3 with ⟨c, g5, rfl⟩ | ⟨d, st2, g5, g4⟩
      · exact ⟨w, O0, H0, O, env, _, .error c, _, R, g5, o.err R⟩
      · refine ⟨w, O0, H0, O, env, _, .ok d, st2, R, g5, fun H1 p1 v rp => ?_⟩
        have R2 := R.post p1
        cases d with
        | int n =>
          cases rp
          simp only at g4
          split at g4
          · rename_i hn
            obtain ⟨n0, n1, n2, nij⟩ := hn
            have k1 := p1.1.own p _ e2 (R.psne e3) a
            have k2 := p1.1.own p' _ f2 (R.psne f3) a2
            have b' := b.mono p1.1.le
            have b2' := b2.mono p1.1.le
            cases hx : m[n.toNat]? with
            | none => rw [hx] at g4; cases g4
            | some x =>
              rw [hx] at g4
              obtain ⟨rfl, rfl⟩ := pure_inv g4
              obtain ⟨y, hy, ry⟩ := b2'.get' hx
              have hlt : n.toNat < m.length := (List.getElem?_eq_some_iff.mp hx).1
              have R3 := R2.writeOwn (o := .lst _) hm f1 fun le => .lst upd_same ((b2'.eraseIdx n.toNat).mono le)
              have pne : p ≠ p' := fun z => nij (R.inj i j p _ _ hl hm e1 (by rw [f1, z]))
              have le1 := le_write (H := H1) (O := O) (p := p') (o := .lst (zs.eraseIdx n.toNat)) f2
              refine ⟨p', zs, n, n.toNat, y, rfl, rfl, k2, by omega, by omega, ?_, hy, p, ws, y, rfl, rfl, ?_, ?_, ?_⟩
              · unfold seqIndex?
                simp only
                rw [if_neg (by omega : ¬ n < 0), b2.length]
                rw [if_pos (by simp; omega)]
              · rw [upd_ne pne]; exact k1
              · rw [b.length]; exact n2
              · exact o _ _ _ (R3.writeOwn (i := i) (d := .list l) (by rw [List.getElem?_set_ne (Ne.symm nij)]; exact hl) e1 fun le => .lst upd_same (((b'.mono le1).append (.cons (ry.mono le1) .nil)).mono le))
          · cases g4
        | _ => cases g4
theorem s_ix {a b : Expr} {A B : TK.E} {k : Nat} (hr : Room k X.A) (ha : PE X a (rdB X.K X.mg E Γ A)) (hb : PE X b (rdB X.K X.mg E Γ B)) (hp : PlainIx b) : PE X (.Subscript a b pos) (rd X.K X.mg E Γ (.op2 .ix A B)) := by
  obtain ⟨r, h1, h2⟩ := ok_ix hr
  exact (pe_ix h1 ha hb hp).weak (OpOk.tOp (f := binaryOp .Add) h2)
end
end TK
namespace TK
open PySem PySem.Spec PyProof.Rows L2
section
variable {prog : Program} {w : World} {A : Around} {E : Value → Shared → Prop} {s : Shared}
theorem adjust_rev (n : Nat) : Builtin.Slice.sliceAdjust none none (-1) (n : Int) = ((n : Int) - 1, -1) := by
  unfold Builtin.Slice.sliceAdjust
  simp
theorem places_rev (n : Nat) : Builtin.Slice.slicePlaces ((n : Int) - 1) (-1) (-1) = n := by
  unfold Builtin.Slice.slicePlaces
  have h1 : ¬ ((-1 : Int) > 0) := by omega
  simp only [h1, if_false]
  have h2 : -(-1 : Int) = 1 := rfl
  rw [h2, Int.ediv_one]
  split <;> omega
theorem sliceApplied_rev {sl : Addr} {n : Nat} {t : Tok} {Q : Int × Int × Nat → Shared → Prop} (hs : s.heap.IsSliceOf sl .none .none (.int (-1) t))
    (h : Q ((n : Int) - 1, -1, n) s) : wpAny (model prog w) A (Builtin.Slice.sliceApplied (.ref sl) (pure (n : Int))) Q E s := by
  obtain ⟨os, hos, hcs, hds⟩ := id hs
  unfold Builtin.Slice.sliceApplied Builtin.Slice.sliceFields
  refine wpAny_bind (wpAny_bind (wpAny_field hos hds (x := .none) rfl (wpAny_bind (wpAny_field hos hds (x := .none) rfl (wpAny_bind (wpAny_field hos hds (x := .int (-1) t) rfl (wpAny_pure ?_)))))))
  refine wpAny_bind (HT.slicePart_ (.int (-1) t) ?_)
  show wpAny _ _ (if ((-1 : Int) == 0) = true then _ else _) _ _ s
  rw [if_neg (by decide)]
  refine wpAny_bind (HT.slicePart_ .none (wpAny_bind (HT.slicePart_ .none (wpAny_bind (wpAny_pure ?_)))))
  show wpAny _ _ (match Builtin.Slice.sliceAdjust none none (-1) (n : Int) with | (lo, hi) => pure (lo, (-1 : Int), Builtin.Slice.slicePlaces lo hi (-1))) _ _ s
  rw [adjust_rev n]
  show wpAny _ _ (pure ((n : Int) - 1, (-1 : Int), Builtin.Slice.slicePlaces ((n : Int) - 1) (-1) (-1))) _ _ s
  rw [places_rev]
  exact wpAny_pure h
theorem pick_rev (xs : Array Value) : ((List.range xs.size).filterMap fun (m : Nat) => xs[(((xs.size : Int) - 1) + (m : Int) * (-1)).toNat]?).toArray = xs.toList.reverse.toArray := by
  congr 1
  apply List.ext_getElem?
  intro i
  have e : (List.range xs.size).filterMap (fun (m : Nat) => xs[(((xs.size : Int) - 1) + (m : Int) * (-1)).toNat]?) = (List.range xs.size).map (fun (m : Nat) => xs.toList.getD (xs.size - 1 - m) .none) := by
    have key : ∀ l : List Nat, (∀ m ∈ l, m < xs.size) → l.filterMap (fun (m : Nat) => xs[(((xs.size : Int) - 1) + (m : Int) * (-1)).toNat]?) = l.map (fun (m : Nat) => xs.toList.getD (xs.size - 1 - m) .none) := by
      intro l
      induction l with
      | nil => intro _; rfl
      | cons m l ih =>
        intro h
        have hm := h m List.mem_cons_self
        have e1 : (((xs.size : Int) - 1) + (m : Int) * (-1)).toNat = xs.size - 1 - m := by omega
        have hlt : xs.size - 1 - m < xs.size := by omega
        have e2 : xs[(((xs.size : Int) - 1) + (m : Int) * (-1)).toNat]? = some (xs.toList.getD (xs.size - 1 - m) .none) := by
          rw [e1, List.getD_eq_getElem?_getD, Array.getElem?_toList]
          simp [hlt]
        rw [List.filterMap_cons_some (f := fun (m : Nat) => xs[(((xs.size : Int) - 1) + (m : Int) * (-1)).toNat]?) e2, List.map_cons, ih fun k hk => h k (List.mem_cons_of_mem _ hk)]
    exact key _ fun m hm => List.mem_range.mp hm
  rw [e]
  by_cases hi : i < xs.size
  · rw [List.getElem?_map, List.getElem?_range hi, List.getElem?_reverse (by rw [Array.length_toList]; exact hi), Array.length_toList]
    simp only [Option.map_some, List.getD_eq_getElem?_getD]
    have hlt : xs.size - 1 - i < xs.toList.length := by rw [Array.length_toList]; omega
    rw [List.getElem?_eq_getElem hlt]
    rfl
  · rw [List.getElem?_eq_none (by rw [List.length_map, List.length_range]; omega), List.getElem?_eq_none (by rw [List.length_reverse, Array.length_toList]; omega)]
theorem getItem_tuple_rev {t sl : Addr} {items : Array Value} {tk : Tok} {Q : Value → Shared → Prop} (ht : IsTup s.heap t items) (hs : s.heap.IsSliceOf sl .none .none (.int (-1) tk))
    (h : Q (.ref s.heap.objs.size) { s with heap := s.heap.push { cls := .type "tuple", data := .seq items.toList.reverse.toArray } })
    (hsz : items.size ≤ sizeLine) : wpAny (model prog w) A (getItem (.ref t) (.ref sl)) Q E s := by
  have htake : sizeOk (.seq items.toList.reverse.toArray) := by
    show items.toList.reverse.toArray.size ≤ sizeLine
    rw [List.size_toArray, List.length_reverse, Array.length_toList]
    omega
  obtain ⟨os, hos, hcs, hds⟩ := id hs
  have hTs : s.TypeIs (.ref sl) "slice" := ⟨os, hos, hcs⟩
  unfold getItem
  try with_reducible refine wpAny_holding ?_
  first | refine wpAny_bind (wpAny_pure ?_) | skip
  refine wpAny_bind (wpAny_sequenceKey ht.typeIs (by decide) ?_)
  refine wpAny_bind (wpAny_callSpecial?_slot (name := Str.ofString "__getitem__") ht.typeIs PyProof.Rows.slot_tuple_getitem
    (wpAny_call_entry PyProof.Rows.slot_tuple_getitem ht.typeIs entry_tuple_getitem ?_ (args_tuple_getitem _ _)))
  show wpAny _ _ (Builtin.Tuple.tupleItemsOf (.ref t) >>= _) _ _ s
  refine wpAny_bind (tupleItemsOf_ ht ?_)
  refine wpAny_bind (wpAny_typeOf hTs ?_)
  rw [if_pos (by decide)]
  refine wpAny_bind (sliceApplied_rev hs ?_)
  have hno : ¬ ((((items.size : Int) - 1) == 0 && (-1 : Int) == 1 && items.size == items.size) = true) := by
    intro q
    rw [Bool.and_eq_true, Bool.and_eq_true] at q
    exact absurd q.1.2 (by decide)
  show wpAny _ _ (if (((items.size : Int) - 1) == 0 && (-1 : Int) == 1 && items.size == items.size) = true then _ else _) _ _ s
  rw [if_neg hno, pick_rev]
  first
    | exact wpAny_bind (m := Builtin.Tuple.tupleExact _) (wpAny_newObj_type (wpAny_pure ⟨_, rfl, wpAny_pure h⟩) htake)
    | exact wpAny_bind (m := Builtin.Tuple.tupleExact _) (wpAny_newObj_type (wpAny_bind (wpAny_pure (wpAny_pure ⟨_, rfl, wpAny_pure h⟩))) htake)
    | exact wpAny_bind (wpAny_bind (m := Builtin.Tuple.tupleExact _) (wpAny_newObj_type (wpAny_pure (wpAny_pure ⟨_, rfl, wpAny_pure h⟩)) htake))
    | exact wpAny_bind (wpAny_bind (m := Builtin.Tuple.tupleExact _) (wpAny_newObj_type (wpAny_pure ⟨_, rfl, wpAny_pure h⟩) htake))
end
section
variable {X : Cx}
def tRevT (K : PySem.W.Frag) (te : TE) : TE := fun σ H Q => te σ H fun x H1 => ∃ a xs, x = .ref a ∧ SqT K H1 a xs ∧ ∀ p, H1 p = none → Q (.ref p) (upd H1 p (.tup xs.reverse))
theorem pe_revT {e : Expr} {te : TE} {k : Nat} {p1 p2 p3 pos : Pos} (he : PE X e te) : PE X (.Subscript e (.Slice none none (some (.UnaryOp .USub (.Constant (.int 1) k p1) p2)) p3) pos) (tRevT X.K te) := by
  refine ⟨fun pins s σ H Q I h => ?_⟩
  refine Subscript_ (thn (he.run pins s σ H _ I h) fun v s1 ⟨x, H1, I1, r1, q1⟩ => ?_)
  obtain ⟨a, xs, ex, hx, q⟩ := q1
  subst ex
  cases r1
  have hst : PO X (some (.UnaryOp .USub (.Constant (.int 1) k p1) p2)) (tPart (tUn (rU fun i => .int (-i)) (tC (.int 1)))) := po_some (pe_un un_neg pe_int)
  refine wpAny_Slice (thn (po_none.run pins s1 σ H1 (fun o H2 => o = none ∧ H2 = H1) I1 ⟨rfl, rfl⟩) fun vl s2 ⟨l, H2, I2, pl, el, e2⟩ => ?_)
  subst el e2
  refine thn (po_none.run pins s2 σ H2 (fun o H3 => o = none ∧ H3 = H2) I2 ⟨rfl, rfl⟩) fun vu s3 ⟨u, H3, I3, pu, eu, e3⟩ => ?_
  subst eu e3
  refine thn (hst.run pins s3 σ H3 (fun o H4 => o = some (-1) ∧ H4 = H3) I3 ⟨1, rfl, -1, rfl, rfl, rfl⟩) fun vs s4 ⟨o, H4, I4, ps, eo, e4⟩ => ?_
  subst eo e4
  cases pl
  cases pu
  obtain ⟨tk, rfl⟩ : ∃ tk, vs = .int (-1) tk := by cases ps; exact ⟨_, rfl⟩
  have I5 : L2.Inv X pins σ H4 { s4 with heap := s4.heap.push { cls := .type "slice", data := .fields #[.none, .none, .int (-1) tk] } } := I4.kept (t' := s4.toks) fun b ob q => Heap.get?_push_of_some _ q
  obtain ⟨its, r, ht, hz⟩ := I5.tuple hx
  have hlen := r.length
  show wpAny (model X.prog X.w) X.A (subscriptTail e (.Slice none none (some (.UnaryOp .USub (.Constant (.int 1) k p1) p2)) p3) (.ref a) (.ref s4.heap.objs.size)) (EP X pins σ Q) X.xe { s4 with heap := s4.heap.push { cls := .type "slice", data := .fields #[.none, .none, .int (-1) tk] } }
  refine tail_any (ops := [.ref a, .ref s4.heap.objs.size]) ht.typeIs (PyProof.Rows.slot_tuple_getitem.lookup) ?_ (by with_unfolding_all rfl)
  refine getItem_tuple_rev ht (Heap.IsSliceOf.new _ .none .none (.int (-1) tk)) ?_ (by rw [List.size_toArray]; omega)
  refine ⟨.ref _, _, I5.laid (t' := s4.toks) (o := .tup xs.reverse) (fun b ob q => Heap.get?_push_of_some _ q) (Nat.le_refl _) ?_, rfl, q _ (I5.hok.fresh (Nat.le_refl _))⟩
  exact ⟨by rw [List.length_reverse]; exact hz, _, r.reverse, IsTup.new _ _⟩
end
section
variable {X : Cx} {E : XK} {Γ : List FnSem} {pos : Pos} {k : Nat}
theorem s_rev {e : Expr} {A : TK.E} {k : Nat} {p1 p2 p3 pos : Pos} (he : PE X e (rdB X.K X.mg E Γ A)) : PE X (.Subscript e (.Slice none none (some (.UnaryOp .USub (.Constant (.int 1) k p1) p2)) p3) pos) (rd X.K X.mg E Γ (.op1 .rev A)) := by
  refine ((pe_revL he).or (pe_revT he)).weak fun σ H Q q => ?_
  obtain ⟨w, O0, H0, O, env, st, rr, st', R, q, oo⟩ := q
  have q : (orB env A (ev Γ env A) >>= fun x => liftO (app1 .rev x)) st = some (rr, st') := q
  rcases bind_inv q with ⟨c, h1, rfl⟩ | ⟨d, st1, h1, h2⟩
  · exact .inl ⟨w, O0, H0, O, env, st, _, _, R, h1, oo⟩
  · obtain ⟨x, h3, rfl, rfl⟩ := liftO_inv h2
    cases d with
    | list l =>
      cases h3
      refine .inl ⟨w, O0, H0, O, env, st, .ok _, _, R, h1, fun H1 p1 v b1 => ?_⟩
      obtain ⟨a, xs, rfl, g1, r1⟩ := b1.list
      have R1 := R.post p1
      exact ⟨a, xs, rfl, SqL.of g1, fun p hp => oo.later p1 _ (R1.post_new hp) _ (rp_newL R1 hp r1.reverse)⟩
    | tuple l =>
      cases h3
      refine .inr ⟨w, O0, H0, O, env, st, .ok _, _, R, h1, fun H1 p1 v b1 => ?_⟩
      obtain ⟨a, xs, rfl, g1, r1⟩ := b1.tuple
      have R1 := R.post p1
      exact ⟨a, xs, rfl, SqT.of g1, fun p hp => oo.later p1 _ (R1.post_new hp) _ (rp_newT R1 hp r1.reverse)⟩
    | _ => cases h3
theorem s_neg {e : Expr} {A : TK.E} (he : PE X e (rdB X.K X.mg E Γ A)) : PE X (.UnaryOp .USub e pos) (rd X.K X.mg E Γ (.op1 .neg A)) := by
  refine (pe_un un_neg he).weak fun σ H Q q => ?_
  obtain ⟨w, O0, H0, O, env, st, rr, st', R, q, oo⟩ := q
  refine rdB_bind R (f := fun x => liftO (app1 .neg x)) q oo fun d st1 v H1 R1 p1 q1 h1 o1 => ?_
  obtain ⟨x, h3, rfl, rfl⟩ := liftO_inv h1
  cases d with
  | int i =>
    cases h3
    obtain rfl := q1.int
    exact ⟨i, rfl, o1 H1 R1.here _ (.int _)⟩
  | _ => cases h3
/-- > by data that are alike -/
def rGtD (K : PySem.W.Frag) : R2 := fun x y H Q => ∃ d e, Dp K H x d ∧ Dp K H y e ∧ PySem.W.alike e d = true ∧ e ≠ .none ∧ e.depth ≤ 64 ∧ Q (.bl (PySem.W.dataLt e d)) H
theorem op_gtD (hu : X.A.units + 64 < cLine) : OpR X (compareOp .Gt) (rGtD X.K) := by
  intro pins s σ H x y v u Q I rx ry h
  obtain ⟨d, e, hd, he, ha, hn, hz, q⟩ := h
  obtain ⟨as, r1⟩ := Dp.reads I d x v hd rx
  obtain ⟨bs, r2⟩ := Dp.reads I e y u he ry
  exact PySem.W.rcGt_alike d e X.A s v u as bs r1 r2 (by rw [PySem.W.alike_comm]; exact ha) (fun z => hn (by subst z; cases e <;> first | rfl | cases ha)) (by have : min d.depth e.depth ≤ e.depth := Nat.min_le_right _ _; omega) X.prog X.w X.xe _ ⟨.bl _, H, I, rfl, q⟩
theorem ok_gt {k : Nat} (hr : Room k X.A) : OpOk X (compareOp .Gt) .gt := by
  refine ⟨_, (op_gt.or op_gt_str).or (op_gtD hr.units), fun w O0 H0 O σ H env st v u d e x Q R bv bu ha q => ?_⟩
  cases d with
  | int i =>
    cases e with
    | int j =>
      cases ha
      obtain rfl := bv.int
      obtain rfl := bu.int
      exact .inl (.inl ⟨i, j, rfl, rfl, q _ H R.here (.bl _)⟩)
    | _ => cases ha
  | str i =>
    cases e with
    | str j =>
      cases ha
      obtain ⟨rfl, _⟩ := bv.str
      obtain ⟨rfl, _⟩ := bu.str
      exact .inl (.inr ⟨i, j, rfl, rfl, q _ H R.here (.bl _)⟩)
    | _ => cases ha
  | tuple a =>
    cases e with
    | tuple c =>
      simp only [app2, gtD, Option.map_eq_some_iff] at ha
      obtain ⟨z, h, rfl⟩ := ha
      obtain ⟨h1, h2, h3, h4, rfl⟩ := ltD_some h
      exact .inr ⟨_, _, bv.dp h4, bu.dp h3, h1, h2, Nat.le_trans (dep_depth h3) (by decide), q _ H R.here (.bl _)⟩
    | _ => cases ha
  | _ => cases e <;> cases ha
end
section
variable {P : Program} {w : World} {K : PySem.W.Frag} {mg : Str → Option Value} {base : Heap}
/-- a def whose body is read does what its reading tells -/
theorem good_of {x : Str} {params : Arguments} {body : List Stmt} {scope : Scope} {f : Addr} {fd : FuncData} {N ps : List Str} {k : Nat} {Γ : List FnSem} {fn : Fn} (F : FunD K x x params body scope [] [] f fd) (S : FnScope N ps scope) (gm : mg x = some (.ref f)) (hB : Binds K fd ps [])
    (hnp : fn.np = ps.length) (hnl : fn.nl = N.length) (hle : ps.length ≤ N.length)
    (hbody : ∀ (cdv : Value) (A : Around) (outer : List PySem.Env) (s : Shared) (H : Hp) (E : XK), Room k (A.deeper (envOfC x scope s.heap.objs.size f cdv)) →
      PSs (cxOf (L2.CX P w) P w K mg base N x scope f cdv A outer s H E) body (rdSs K mg E Γ fn.body)) : FnGood P w K mg base (k + 1) x (run Γ fn) := by
  refine ⟨f, fd, ps, F.ok S (fun vs H Q E q => ?_) (fun cdv A outer s H vs Q E hr q => ⟨_, hbody cdv A outer s H E hr, ?_⟩), gm, F.kp, hB⟩
  · obtain ⟨w, O, st, ds, r, st', q1, q2, q3, q4, q5, q6, q7⟩ := q
    unfold run at q6
    split at q6
    · rename_i e
      rw [q5.length, e, hnp]
    · cases q6
  · obtain ⟨w, O, st, ds, r, st', q1, q2, q3, q4, q5, q6, q7⟩ := q
    unfold run at q6
    split at q6
    · rename_i e
      have hv : vs.length = ds.length := q5.length
      have R : Rel K w O H O (L2.start N vs) H (ds.map .val ++ List.replicate (fn.nl - fn.np) .no) st := by
        have lo : ∀ {i : Nat} {s : Slot}, (ds.map Slot.val ++ List.replicate (fn.nl - fn.np) .no)[i]? = some s → s = .no ∨ ∃ d, s = .val d ∧ ds[i]? = some d := fun {i s} h => by
          by_cases hi : i < ds.length
          · rw [List.getElem?_append_left (by rw [List.length_map]; exact hi), List.getElem?_map] at h
            cases z : ds[i]? with
            | none => rw [z] at h; cases h
            | some d => rw [z] at h; cases h; exact .inr ⟨d, rfl, rfl⟩
          · rw [List.getElem?_append_right (by rw [List.length_map]; omega)] at h
            have := List.mem_of_getElem? h
            exact .inl (List.eq_of_mem_replicate this)
        refine ⟨Ext.refl, fun _ h => h, fun a h => (q1 a h).ne, q1, (fun a h h' => by rw [h] at h'; cases h'), q2, q3, q4, ?_, fun i d h => ?_, fun i d h => ?_, fun i j p di dj h => ?_⟩
        · unfold L2.start
          rw [List.length_append, List.length_append, List.length_map, List.length_map, List.length_replicate, List.length_replicate, hv]
          omega
        · rcases lo h with z | ⟨d', z, h'⟩
          · cases z
          · cases z
            obtain ⟨v, h1, h2⟩ := q5.get' h'
            have hi : i < vs.length := (List.getElem?_eq_some_iff.mp h1).1
            refine ⟨v, ?_, h2⟩
            unfold L2.start
            rw [List.getElem?_append_left (by rw [List.length_map]; exact hi), List.getElem?_map, h1]
            rfl
        · rcases lo h with z | ⟨d', z, h'⟩ <;> cases z
        · rcases lo h with z | ⟨d', z, h'⟩ <;> cases z
      have q6 : (exs Γ fn.body (ds.map .val ++ List.replicate (fn.nl - fn.np) .no) >>= fun p => (match p.1 with | .rt d => pure d | .nx => pure .none : M D)) st = some (r, st') := q6
      rcases bind_inv q6 with ⟨c, g1, rfl⟩ | ⟨⟨fl, env'⟩, st1, g1, g2⟩
      · exact ⟨w, O, H, O, _, st, .error c, _, R, g1, fun A H' m p => q7 A H' m p⟩
      · refine ⟨w, O, H, O, _, st, .ok (fl, env'), st1, R, g1, ?_⟩
        cases fl with
        | nx =>
          obtain ⟨rfl, rfl⟩ := pure_inv (a := (.none : TK.D)) g2
          exact fun O' σ' H' R' => q7 H' R'.post0 _ .non
        | rt d =>
          obtain ⟨rfl, rfl⟩ := pure_inv (a := d) g2
          exact fun v H' p rp => q7 H' p v rp
    · cases q6
/-- what is never told is kept -/
theorem good_fail {x : Str} {params : Arguments} {body : List Stmt} {scope : Scope} {f : Addr} {fd : FuncData} {N ps : List Str} {k : Nat} (F : FunD K x x params body scope [] [] f fd) (S : FnScope N ps scope) (gm : mg x = some (.ref f)) (hB : Binds K fd ps []) : FnGood P w K mg base (k + 1) x (fun _ => fail) := by
  refine ⟨f, fd, ps, F.ok S (fun vs H Q E q => ?_) (fun cdv A outer s H vs Q E hr q => ?_), gm, F.kp, hB⟩
  · obtain ⟨w, O, st, ds, r, st', q1, q2, q3, q4, q5, q6, q7⟩ := q
    cases q6
  · obtain ⟨w, O, st, ds, r, st', q1, q2, q3, q4, q5, q6, q7⟩ := q
    cases q6
end
end TK
namespace TK
open PySem PySem.Spec PyProof.Rows L2
def bltNames : List Str := ["len", "range", "zip", "enumerate", "all", "any", "abs", "tuple", "list", "str", "int", "sorted", "set", "min", "max", "sum", "isinstance", "bool", "dict"]
/-- no built-in is bound anew -/
def Blt (mg : Str → Option Value) : Prop := ∀ x ∈ bltNames, mg x = none
structure Cxt (X : Cx) (k : Nat) (E : XK) : Prop where
  calm : X.calm = true
  room : Room k X.A
  nd : X.N.Nodup
  blt : Blt X.mg
  pass : Passes (L2.CX X.prog X.w) X E
theorem Cxt.blk {X : Cx} {k : Nat} {E : XK} (c : Cxt X k E) {s : Shared} {H : Hp} {scope : Scope} {env : PySem.Env} {fp : List Addr} : Cxt (X.blk s H scope env fp) k E0 := ⟨c.calm, c.room, c.nd, c.blt, passL⟩
def visB (sc : Scope) (x : Str) : Bool := match sc.names.lookup x with | some .local => true | some .cell => true | some .free => true | _ => false
theorem vis_of {sc : Scope} {x : Str} (h : visB sc x = true) : Vis sc x := by
  unfold visB at h
  split at h
  · exact .inl (by assumption)
  · exact .inr (.inl (by assumption))
  · exact .inr (.inr (by assumption))
  · cases h
def locB (sc : Scope) (x : Str) : Bool := match sc.names.lookup x with | some .local => true | some .cell => true | _ => false
theorem loc_of {sc : Scope} {x : Str} (h : locB sc x = true) : Loc sc x := by
  unfold locB at h
  split at h
  · exact .inl (by assumption)
  · exact .inr (by assumption)
  · cases h
def tgB (X : Cx) (x : Str) : Bool := X.fn x || (match X.env.scope.names.lookup x with | some .local => true | _ => false)
theorem tg_of {X : Cx} {x : Str} (h : tgB X x = true) : X.fn x = true ∨ X.env.scope.names.lookup x = some .local := by
  unfold tgB at h
  rw [Bool.or_eq_true] at h
  rcases h with h | h
  · exact .inl h
  · split at h
    · exact .inr (by assumption)
    · cases h
def okN (x : Str) : Bool := !(x == ("__debug__" : Str)) && !(x == ("__classdict__" : Str)) && !(x == ("__name__" : Str))
theorem okN1 {x : Str} (h : okN x = true) : (x == ("__debug__" : Str)) = false := by
  unfold okN at h
  simp only [Bool.and_eq_true, Bool.not_eq_true'] at h
  exact h.1.1
theorem okN2 {x : Str} (h : okN x = true) : (x == ("__classdict__" : Str)) = false := by
  unfold okN at h
  simp only [Bool.and_eq_true, Bool.not_eq_true'] at h
  exact h.1.2
theorem okN3 {x : Str} (h : okN x = true) : x ≠ "__name__" := by
  unfold okN at h
  simp only [Bool.and_eq_true, Bool.not_eq_true'] at h
  exact fun e => by rw [e] at h; exact absurd h.2 (by decide)
def isVar : TK.E → Bool
  | .var _ => true
  | _ => false
theorem notVar {T : TK.E} (h : isVar T = false) : ∀ i, T ≠ .var i := fun i e => by rw [e] at h; cases h
def isCmp : O2 → Bool
  | .eq => true | .ne => true | .lt => true | .le => true | .gt => true | .ge => true | .isin => true | .notin => true | _ => false
theorem cmp_bool {o : O2} (h : isCmp o = true) : ∀ d e x, app2 o d e = some x → ∃ b, x = .bool b := by
  intro d e x hx
  cases o <;> first | cases h | skip
  case isin =>
    cases e with
    | list l =>
      simp only [app2] at hx
      split at hx
      · cases hx; exact ⟨_, rfl⟩
      · cases hx
    | tuple l =>
      simp only [app2] at hx
      split at hx
      · cases hx; exact ⟨_, rfl⟩
      · cases hx
    | dict l =>
      simp only [app2, Option.map_eq_some_iff] at hx
      obtain ⟨b, _, rfl⟩ := hx
      exact ⟨_, rfl⟩
    | _ => cases hx
  case notin =>
    cases e with
    | list l =>
      simp only [app2] at hx
      split at hx
      · cases hx; exact ⟨_, rfl⟩
      · cases hx
    | tuple l =>
      simp only [app2] at hx
      split at hx
      · cases hx; exact ⟨_, rfl⟩
      · cases hx
    | dict l =>
      simp only [app2, Option.map_eq_some_iff] at hx
      obtain ⟨b, _, rfl⟩ := hx
      exact ⟨_, rfl⟩
    | _ => cases hx
  all_goals
    simp only [app2, Option.map_eq_some_iff] at hx
    obtain ⟨b, _, rfl⟩ := hx
    exact ⟨_, rfl⟩
section
variable {X : Cx} {E : XK} {Γ : List FnSem} {k : Nat} {pos : Pos}
theorem e_var {i : Nat} {x : Str} (hN : X.N[i]? = some x) (hv : visB X.env.scope x = true) (ho : okN x = true) : PE X (.Name x pos) (rd X.K X.mg E Γ (.var i)) := s_var hN (vis_of hv) (okN1 ho) (okN2 ho)
theorem e_varB {i : Nat} {x : Str} (hN : X.N[i]? = some x) (hv : visB X.env.scope x = true) (ho : okN x = true) : PE X (.Name x pos) (rdB X.K X.mg E Γ (.var i)) := s_varB hN (vis_of hv) (okN1 ho) (okN2 ho)
theorem e_B {e : Expr} {T : TK.E} (hT : isVar T = false) (h : PE X e (rd X.K X.mg E Γ T)) : PE X e (rdB X.K X.mg E Γ T) := s_B (notVar hT) h
theorem e_cons {e : Expr} {es : List Expr} {T : TK.E} {Ts : List TK.E} (hs : notStar e = true) (h : PE X e (rd X.K X.mg E Γ T)) (hr : PA X es (rdA X.K X.mg E Γ Ts)) : PA X (e :: es) (rdA X.K X.mg E Γ (T :: Ts)) := s_cons h hr (star_ok hs)
theorem e_call {nm : Str} {j : Nat} {F : FnSem} {e : Expr} {es : List Expr} {As : List TK.E} {p : Pos} (c : Cxt X k E) (G : FnGood X.prog X.w X.K X.mg X.base k nm F) (hj : Γ[j]? = some F) (hg : Gl X nm) (ho : okN nm = true) (hs : (e :: es).all notStar = true) (ha : PA X (e :: es) (rdA X.K X.mg E Γ As)) :
    PE X (.Call (.Name nm p) (e :: es) [] pos) (rd X.K X.mg E Γ (.call j As)) := by
  rw [List.all_cons, Bool.and_eq_true] at hs
  exact s_call G hj c.room c.pass hg ha hs.1 hs.2 (okN1 ho)
theorem mem_blt {x : Str} (h : bltNames.contains x = true) : x ∈ bltNames := List.contains_iff_mem.mp h
section
variable {e : Expr} {A : TK.E} {p : Pos}
theorem e_len (c : Cxt X k E) (hg : Gl X "len") (hs : notStar e = true) (h : PE X e (rdB X.K X.mg E Γ A)) : PE X (.Call (.Name "len" p) [e] [] pos) (rd X.K X.mg E Γ (.op1 .len A)) := s_callB c_len hg (c.blt _ (mem_blt (by decide +kernel))) (by decide +kernel) h hs (by decide +kernel) (by decide +kernel)
theorem e_all (c : Cxt X k E) (hg : Gl X "all") (hs : notStar e = true) (h : PE X e (rdB X.K X.mg E Γ A)) : PE X (.Call (.Name "all" p) [e] [] pos) (rd X.K X.mg E Γ (.op1 .all A)) := s_callB (c_all c.calm) hg (c.blt _ (mem_blt (by decide +kernel))) (by decide +kernel) h hs (by decide +kernel) (by decide +kernel)
theorem e_abs (c : Cxt X k E) (hg : Gl X "abs") (hs : notStar e = true) (h : PE X e (rdB X.K X.mg E Γ A)) : PE X (.Call (.Name "abs" p) [e] [] pos) (rd X.K X.mg E Γ (.op1 .abs A)) := s_callB c_abs hg (c.blt _ (mem_blt (by decide +kernel))) (by decide +kernel) h hs (by decide +kernel) (by decide +kernel)
theorem e_sorted (c : Cxt X k E) (hg : Gl X "sorted") (hs : notStar e = true) (h : PE X e (rdB X.K X.mg E Γ A)) : PE X (.Call (.Name "sorted" p) [e] [] pos) (rd X.K X.mg E Γ (.op1 .sorted A)) := s_callB (c_sorted c.calm c.room) hg (c.blt _ (mem_blt (by decide +kernel))) (by decide +kernel) h hs (by decide +kernel) (by decide +kernel)
theorem e_max (c : Cxt X k E) (hg : Gl X "max") (hs : notStar e = true) (h : PE X e (rdB X.K X.mg E Γ A)) : PE X (.Call (.Name "max" p) [e] [] pos) (rd X.K X.mg E Γ (.op1 .max A)) := s_callB (c_max c.calm c.room) hg (c.blt _ (mem_blt (by decide +kernel))) (by decide +kernel) h hs (by decide +kernel) (by decide +kernel)
theorem e_tuple (c : Cxt X k E) (hg : Gl X "tuple") (hs : notStar e = true) (h : PE X e (rdB X.K X.mg E Γ A)) : PE X (.Call (.Name "tuple" p) [e] [] pos) (rd X.K X.mg E Γ (.op1 .tupleOf A)) := s_callT (c_tuple c.calm) hg (c.blt _ (mem_blt (by decide +kernel))) (by decide +kernel) h hs (by decide +kernel) (by decide +kernel)
theorem e_list (c : Cxt X k E) (hg : Gl X "list") (hs : notStar e = true) (h : PE X e (rdB X.K X.mg E Γ A)) : PE X (.Call (.Name "list" p) [e] [] pos) (rd X.K X.mg E Γ (.op1 .listOf A)) := s_callT c_list hg (c.blt _ (mem_blt (by decide +kernel))) (by decide +kernel) h hs (by decide +kernel) (by decide +kernel)
theorem e_str (c : Cxt X k E) (hg : Gl X "str") (hs : notStar e = true) (h : PE X e (rdB X.K X.mg E Γ A)) : PE X (.Call (.Name "str" p) [e] [] pos) (rd X.K X.mg E Γ (.op1 .str A)) := s_callT c_str hg (c.blt _ (mem_blt (by decide +kernel))) (by decide +kernel) h hs (by decide +kernel) (by decide +kernel)
theorem e_int (c : Cxt X k E) (hg : Gl X "int") (hs : notStar e = true) (h : PE X e (rdB X.K X.mg E Γ A)) : PE X (.Call (.Name "int" p) [e] [] pos) (rd X.K X.mg E Γ (.op1 .int A)) := s_callT c_int hg (c.blt _ (mem_blt (by decide +kernel))) (by decide +kernel) h hs (by decide +kernel) (by decide +kernel)
theorem e_setLen {p2 p3 p4 : Pos} (c : Cxt X k E) (hg : Gl X "len") (hg2 : Gl X "set") (hs : notStar e = true) (h : PE X e (rdB X.K X.mg E Γ A)) : PE X (.Call (.Name "len" p) [.Call (.Name "set" p2) [e] [] p3] [] p4) (rd X.K X.mg E Γ (.op1 .setLen A)) := s_setLen c.calm hg (c.blt _ (mem_blt (by decide +kernel))) hg2 (c.blt _ (mem_blt (by decide +kernel))) h hs
end
theorem e_isi {e : Expr} {A : TK.E} {t : Ty} {x : Str} {p p2 : Pos} (c : Cxt X k E) (hg : Gl X "isinstance") (hg2 : Gl X x) (hx : (bltNames.contains x && okN x) = true) (hv : bootBuiltins x = some (.type (tyN t))) (hs : notStar e = true) (ha : PE X e (rdB X.K X.mg E Γ A)) :
    PE X (.Call (.Name "isinstance" p) [e, .Name x p2] [] pos) (rd X.K X.mg E Γ (.op1 (.isi t) A)) := by
  rw [Bool.and_eq_true] at hx
  exact s_isi hg (c.blt _ (mem_blt (by decide +kernel))) hg2 (c.blt _ (mem_blt hx.1)) hv (okN3 hx.2) (okN1 hx.2) ha hs
theorem e_cmp {op : CmpOp} {o : O2} {a b : Expr} {A B : TK.E} (h : OpOk X (compareOp op) o) (hm : behindInMarks op b = false) (ha : PE X a (rdB X.K X.mg E Γ A)) (hb : PE X b (rdB X.K X.mg E Γ B)) : PE X (.Compare a [op] [b] pos) (rd X.K X.mg E Γ (.op2 o A B)) := s_cmp h ha hb hm
theorem p_cmp {op : CmpOp} {o : O2} {a b : Expr} {A B : TK.E} (h : OpOk X (compareOp op) o) (hm : behindInMarks op b = false) (ho : isCmp o = true) (ha : PE X a (rdB X.K X.mg E Γ A)) (hb : PE X b (rdB X.K X.mg E Γ B)) : PT X (.Compare a [op] [b] pos) (rdT X.K X.mg E Γ (.op2 o A B)) := t_cmp h ha hb hm (cmp_bool ho)
theorem e_chain {op op' : CmpOp} {o o' : O2} {a b d : Expr} {A B C : TK.E} (h : OpOk X (compareOp op) o) (h' : OpOk X (compareOp op') o') (hm : lastMarks [op, op'] [b, d] = false) (ho : isCmp o = true) (ha : PE X a (rdB X.K X.mg E Γ A)) (hb : PE X b (rdB X.K X.mg E Γ B)) (hc : PE X d (rdB X.K X.mg E Γ C)) : PE X (.Compare a [op, op'] [b, d] pos) (rd X.K X.mg E Γ (.chain o o' A B C)) := s_chain h h' ha hb hc hm (cmp_bool ho)
theorem p_chain {op op' : CmpOp} {o o' : O2} {a b d : Expr} {A B C : TK.E} (h : OpOk X (compareOp op) o) (h' : OpOk X (compareOp op') o') (hm : lastMarks [op, op'] [b, d] = false) (ho : isCmp o = true) (ho' : isCmp o' = true) (ha : PE X a (rdB X.K X.mg E Γ A)) (hb : PE X b (rdB X.K X.mg E Γ B)) (hc : PE X d (rdB X.K X.mg E Γ C)) : PT X (.Compare a [op, op'] [b, d] pos) (rdT X.K X.mg E Γ (.chain o o' A B C)) := t_chain h h' ha hb hc hm (cmp_bool ho) (cmp_bool ho')
theorem e_ix {a b : Expr} {A B : TK.E} (c : Cxt X k E) (hp : ∀ o i, subscripted b false o i = operate [o, i] (getItem o i)) (ha : PE X a (rdB X.K X.mg E Γ A)) (hb : PE X b (rdB X.K X.mg E Γ B)) : PE X (.Subscript a b pos) (rd X.K X.mg E Γ (.op2 .ix A B)) := s_ix c.room ha hb hp
variable {tg : Expr} {m : Bool}
theorem j_range1 {e : Expr} {A : TK.E} {p : Pos} (c : Cxt X k E) (hg : Gl X "range") (hs : notStar e = true) (h : PE X e (rdM X.K X.mg E Γ m A)) : PI X tg (.Call (.Name "range" p) [e] [] pos) (rdI X.K X.mg E Γ m .range1 [A]) := i_range1 hg (c.blt _ (mem_blt (by decide +kernel))) h hs
theorem j_zip {e e' : Expr} {A B : TK.E} {p tpos : Pos} {elts : List Expr} {kk : Nat} (c : Cxt X k E) (hg : Gl X "zip") (hs : notStar e = true) (hs' : notStar e' = true) (h : PE X e (rdM X.K X.mg E Γ m A)) (h' : PE X e' (rdM X.K X.mg E Γ m B)) : PI X (.Tuple elts kk tpos) (.Call (.Name "zip" p) [e, e'] [] pos) (rdI X.K X.mg E Γ m .zip2 [A, B]) := i_zip hg (c.blt _ (mem_blt (by decide +kernel))) h h' hs hs'
theorem j_name {i : Nat} {x : Str} (c : Cxt X k E) (hi : X.N[i]? = some x) (hx : locB X.env.scope x = true) (hf : tgB X x = true) : PG X (.Name x pos) (rdG X.K (.n i)) := g_name c.nd hi (loc_of hx) (tg_of hf)
theorem j_cons {e : Expr} {es : List Expr} {t : Tg} {ts : List Tg} (hs : notStar e = true) (h1 : PG X e (rdG X.K t)) (h2 : PGs X es (rdGs X.K ts)) : PGs X (e :: es) (rdGs X.K (t :: ts)) := g_cons h1 h2 hs
theorem j_tup {es : List Expr} {ts : List Tg} {j : Nat} (c : Cxt X k E) (hs : es.all notStar = true) (hl : es.length = ts.length) (h : PGs X es (rdGs X.K ts)) : PG X (.Tuple es j pos) (rdG X.K (.t ts)) := g_tup c.calm h hs hl
def slotsIn (tg : Tg) (l : List Nat) : Bool := (slotsT tg).all fun i => l.contains i
theorem slots_of {tg : Tg} {l : List Nat} (h : slotsIn tg l = true) : ∀ i ∈ slotsT tg, i ∈ l := fun i hi => List.contains_iff_mem.mp (List.all_eq_true.mp h i hi)
theorem e_comp {elt tg iter : Expr} {ifs : List Expr} {scope : Scope} {tgt : Tg} {ik : IK} {src conds : List TK.E} {T : TK.E} (own : List (Str × Nat)) (c : Cxt X k E) (ok : blkC X.N X.env.scope scope own = true) (hsl : slotsIn tgt (own.map (·.2)) = true) (hs : ∀ x, foldedSetIterable iter X.env x = pure x) (hi : PI X tg iter (rdI X.K X.mg E Γ true ik src))
    (hg : ∀ (s : Shared) (H : Hp) (C : Addr) (cl : List (Str × Addr)) (fp : List Addr), PG (X.blk s H scope (compEnvC scope cl C X.env) fp) tg (rdG X.K tgt))
    (ht : ∀ (s : Shared) (H : Hp) (C : Addr) (cl : List (Str × Addr)) (fp : List Addr), PTs (X.blk s H scope (compEnvC scope cl C X.env) fp) ifs (rdC X.K X.mg E0 Γ conds))
    (he : ∀ (s : Shared) (H : Hp) (C : Addr) (cl : List (Str × Addr)) (fp : List Addr), PE (X.blk s H scope (compEnvC scope cl C X.env) fp) elt (rd X.K X.mg E0 Γ T)) :
    PE X (.ListComp elt [⟨tg, iter, ifs, 0⟩] scope pos) (rd X.K X.mg E Γ (.comp (own.map (·.2)) tgt ik src conds T)) := s_comp c.calm c.nd hi (blkOk_by ok) hg ht he (slots_of hsl) hs
theorem f_lst {es : List Expr} {Ts : List TK.E} (h : PA X es (rdA X.K X.mg E Γ Ts)) : PE X (.List es pos) (rdF X.K X.mg E Γ true (.lst Ts)) := by
  refine (pe_lst h).weak fun σ H Q q => ?_
  obtain ⟨w, O0, H0, O, env, st, r, st', R, q, hB, o⟩ := q
  have q : (evs Γ env Ts >>= fun ds => if ds.length ≤ lim then (pure (PyData.list ds) : M D) else fail) st = some (r, st') := q
  rcases bind_inv q with ⟨cc, h1, rfl⟩ | ⟨ds, st1, h1, h2⟩
  · exact ⟨w, O0, H0, O, env, st, _, _, R, h1, o⟩
  · refine ⟨w, O0, H0, O, env, st, _, _, R, h1, fun H1 p1 vs q1 => ?_⟩
    split at h2
    · obtain ⟨rfl, rfl⟩ := pure_inv h2
      have R1 := R.post p1
      refine ⟨by rw [q1.length]; assumption, fun p hp => o _ (p1.trans (R1.post_new hp)) p (R.fresh p1 hp) (.lst upd_same ?_)⟩
      exact q1.mono fun a u e => by
        obtain ⟨e1, e2⟩ := hid_some e
        have ne : a ≠ p := ne_of_none e2 hp
        exact ⟨u, by rw [hid_of (by rw [addO_ne ne]; exact e1), upd_ne ne]; exact e2, .refl u⟩
    · cases h2
theorem newL_of {w : Dr} {O0 O : Addr → Bool} {H0 H : Hp} {σ : L2.St} {env : Env} {st : DSt} {K : PySem.W.Frag} (R : Rel K w O0 H0 O σ H env st) {p : Addr} {xs : List V} {ds : List D} (hp : H p = none) (r : RpAll w (hid H O) xs ds) : OwnAt w (addO O p) (upd H p (.lst xs)) p (.list ds) :=
  .lst upd_same (r.mono fun a u e => by
    obtain ⟨e1, e2⟩ := hid_some e
    have ne : a ≠ p := ne_of_none e2 hp
    exact ⟨u, by rw [hid_of (by rw [addO_ne ne]; exact e1), upd_ne ne]; exact e2, .refl u⟩)
theorem f_list {e : Expr} {A : TK.E} {p : Pos} (c : Cxt X k E) (hg : Gl X "list") (hs : notStar e = true) (h : PE X e (rdB X.K X.mg E Γ A)) : PE X (.Call (.Name "list" p) [e] [] pos) (rdF X.K X.mg E Γ true (.op1 .listOf A)) := by
  refine (pe_callTy call_list_of hg (c.blt _ (mem_blt (by decide +kernel))) (by decide +kernel) (s_arg1 h hs) (by decide +kernel) (by decide +kernel) (star_ok hs) rfl).weak fun σ H Q q => ?_
  obtain ⟨w, O0, H0, O, env, st, r, st', R, q, hB, o⟩ := q
  have q : (orB env A (ev Γ env A) >>= fun x => liftO (app1 .listOf x)) st = some (r, st') := q
  rcases bind_inv q with ⟨cc, h1, rfl⟩ | ⟨d, st1, h1, h2⟩
  · exact ⟨w, O0, H0, O, env, st, _, _, R, h1, o⟩
  · refine ⟨w, O0, H0, O, env, st, _, _, R, h1, fun H1 p1 v bv => ?_⟩
    obtain ⟨x, h3, rfl, rfl⟩ := liftO_inv h2
    have R1 := R.post p1
    cases d with
    | list l =>
      cases h3
      obtain ⟨a, xs, rfl, g2, r1⟩ := bv.list
      exact ⟨a, xs, rfl, .inl (SqL.of g2), fun z hz => o _ (p1.trans (R1.post_new hz)) z (R.fresh p1 hz) (newL_of R1 hz r1)⟩
    | tuple l =>
      cases h3
      obtain ⟨a, xs, rfl, g2, r1⟩ := bv.tuple
      exact ⟨a, xs, rfl, .inr (SqT.of g2), fun z hz => o _ (p1.trans (R1.post_new hz)) z (R.fresh p1 hz) (newL_of R1 hz r1)⟩
    | _ => cases h3
theorem y_asg {i : Nat} {x : Str} {e : Expr} {A : TK.E} {pos' : Pos} (ow : Bool) (c : Cxt X k E) (hi : X.N[i]? = some x) (hx : locB X.env.scope x = true) (hf : tgB X x = true) (hs : swapsWith e (some (.Name x pos')) pos.line X.env = pure false) (he : PE X e (rdF X.K X.mg E Γ ow A)) : PS X (.Assign [.Name x pos'] e pos) (rdS X.K X.mg E Γ (.asg ow i A)) := x_asg c.nd hi (loc_of hx) he hs (tg_of hf)
end
end TK
namespace TK
open PySem PySem.Spec PyProof.Rows L2
section
variable {X : Cx} {E : XK} {Γ : List FnSem} {k : Nat} {pos : Pos}
abbrev OwnP (X : Cx) : Prop := PassesOwn (model X.prog X.w) X.A X.env X.xe
theorem y_asgLc {i : Nat} {y : Str} {py : Pos} {elt tg iter : Expr} {ifs : List Expr} {scope : Scope} {pos spos : Pos} {tgt : Tg} {ik : IK} {src conds : List TK.E} {T : TK.E} (ow : Bool) (own : List (Str × Nat)) (c : Cxt X k E) (hy : X.N[i]? = some y) (hyl : X.env.scope.names.lookup y = some .local)
    (hsw : swapsWith (.ListComp elt [⟨tg, iter, ifs, 0⟩] scope pos) (some (.Name y py)) spos.line X.env = pure true) (ok : blkC X.N X.env.scope scope own = true) (hsl : slotsIn tgt (own.map (·.2)) = true) (hs : ∀ x, foldedSetIterable iter X.env x = pure x) (hi : PI X tg iter (rdI X.K X.mg E Γ true ik src))
    (hg : ∀ (s : Shared) (H : Hp) (C : Addr) (cl : List (Str × Addr)) (fp : List Addr), PG (X.blk s H scope (compEnvC scope cl C X.env) fp) tg (rdG X.K tgt))
    (ht : ∀ (s : Shared) (H : Hp) (C : Addr) (cl : List (Str × Addr)) (fp : List Addr), PTs (X.blk s H scope (compEnvC scope cl C X.env) fp) ifs (rdC X.K X.mg E0 Γ conds))
    (he : ∀ (s : Shared) (H : Hp) (C : Addr) (cl : List (Str × Addr)) (fp : List Addr), PE (X.blk s H scope (compEnvC scope cl C X.env) fp) elt (rd X.K X.mg E0 Γ T)) :
    PS X (.Assign [.Name y py] (.ListComp elt [⟨tg, iter, ifs, 0⟩] scope pos) spos) (rdS X.K X.mg E Γ (.asg ow i (.comp (own.map (·.2)) tgt ik src conds T))) := x_asgLc c.calm c.nd hy hyl hsw hi (blkOk_by ok) hg ht he (slots_of hsl) hs
theorem y_par2 {i j : Nat} {x y : Str} {a b : Expr} {o1 o2 : Bool} {A B : TK.E} {px py pt : Pos} {kt k2 pt2} (c : Cxt X k E) (hi : X.N[i]? = some x) (hj : X.N[j]? = some y) (hij : decide (i ≠ j) = true)
    (hx : X.env.scope.names.lookup x = some .local) (hy : X.env.scope.names.lookup y = some .local)
    (hw : swappedStores [.Tuple [.Name x px, .Name y py] kt pt] (.Tuple [a, b] k2 pt2) X.env = pure (some [x, y])) (ha : PA X [a, b] (rdP X.K X.mg E Γ [o1, o2] [A, B])) :
    PS X (.Assign [.Tuple [.Name x px, .Name y py] kt pt] (.Tuple [a, b] k2 pt2) pos) (rdS X.K X.mg E Γ (.par [(i, o1), (j, o2)] [A, B])) := x_par2 c.calm c.nd hi hj (of_decide_eq_true hij) hx hy ha hw
theorem y_p {e : Expr} {es : List Expr} {fs : List Bool} {T : TK.E} {Ts : List TK.E} (f : Bool) (hst : notStar e = true) (h : PE X e (rdF X.K X.mg E Γ f T)) (hs : PA X es (rdP X.K X.mg E Γ fs Ts)) : PA X (e :: es) (rdP X.K X.mg E Γ (f :: fs) (T :: Ts)) := p_cons h hs hst
theorem y_unp {tg e : Expr} {tgt : Tg} {A : TK.E} (hs : swapsWithSole [tg] e pos.line X.env = pure false) (hw : swappedStores [tg] e X.env = pure none) (h1 : (assignEach [tg] X.env).map (·.2) = [assign tg X.env]) (hg : PG X tg (rdG X.K tgt)) (he : PE X e (rd X.K X.mg E Γ A)) : PS X (.Assign [tg] e pos) (rdS X.K X.mg E Γ (.unp tgt A)) := x_unp he hg hs hw h1
theorem y_for {tg iter : Expr} {body : List Stmt} {tgt : Tg} {ik : IK} {src : List TK.E} {B : List S} (c : Cxt X k E) (o : OwnP X) (hs : ∀ x, foldedSetIterable iter X.env x = pure x) (hi : PI X tg iter (rdI X.K X.mg E Γ false ik src)) (hg : PG X tg (rdG X.K tgt)) (hb : PSs X body (rdSs X.K X.mg E Γ B)) : PS X (.For tg iter body [] pos) (rdS X.K X.mg E Γ (.for tgt ik src B)) := x_for o c.calm hi hg hb hs
theorem y_append {x : Str} {i : Nat} {e : Expr} {A : TK.E} {p0 apos cpos : Pos} (hN : X.N[i]? = some x) (hv : visB X.env.scope x = true) (ho : okN x = true) (hs : notStar e = true) (hbase : attributeBase (.Name x p0) "append" X.env (eval (.Name x p0) X.env) = eval (.Name x p0) X.env) (hline : (apos.endLine == cpos.line) = true) (he : PE X e (rd X.K X.mg E Γ A)) :
    PS X (.Expr (.Call (.Attribute (.Name x p0) "append" apos) [e] [] cpos) pos) (rdS X.K X.mg E Γ (.append i A)) := x_append hN (vis_of hv) (okN1 ho) (okN2 ho) he hs hbase hline
theorem y_appPop {x y : Str} {i j : Nat} {e : Expr} {A : TK.E} {p0 p1 apos cpos apos2 cpos2 : Pos} (hN : X.N[i]? = some x) (hv : (visB X.env.scope x && okN x) = true) (hN2 : X.N[j]? = some y) (hv2 : (visB X.env.scope y && okN y) = true) (hs : notStar e = true)
    (hbase : attributeBase (.Name x p0) "append" X.env (eval (.Name x p0) X.env) = eval (.Name x p0) X.env) (hline : (apos.endLine == cpos.line) = true)
    (hbase2 : attributeBase (.Name y p1) "pop" X.env (eval (.Name y p1) X.env) = eval (.Name y p1) X.env) (hline2 : (apos2.endLine == cpos2.line) = true) (he : PE X e (rd X.K X.mg E Γ A)) :
    PS X (.Expr (.Call (.Attribute (.Name x p0) "append" apos) [.Call (.Attribute (.Name y p1) "pop" apos2) [e] [] cpos2] [] cpos) pos) (rdS X.K X.mg E Γ (.appPop i j A)) := by
  rw [Bool.and_eq_true] at hv hv2
  exact x_appPop hN (vis_of hv.1) (okN1 hv.2) (okN2 hv.2) hN2 (vis_of hv2.1) (okN1 hv2.2) (okN2 hv2.2) he hs hbase hline hbase2 hline2
end
def fnScB (N ps : List Str) (sc : Scope) : Bool :=
  (match sc.kind with | .function => true | _ => false) && !sc.isCoroutine && !sc.isGenerator && decide N.Nodup && decide (N.take ps.length = ps) && (ps.all fun x => locB sc x) && (sc.names.all fun y => match y.2 with | .free => false | _ => true) && decide (ps.length ≤ N.length)
theorem fnSc_of {N ps : List Str} {sc : Scope} (h : fnScB N ps sc = true) : FnScope N ps sc ∧ ps.length ≤ N.length := by
  unfold fnScB at h
  simp only [Bool.and_eq_true, decide_eq_true_eq, List.all_eq_true, Bool.not_eq_true'] at h
  obtain ⟨⟨⟨⟨⟨⟨⟨h1, h2⟩, h3⟩, h4⟩, h5⟩, h6⟩, h7⟩, h8⟩ := h
  refine ⟨⟨?_, h2, h3, h4, h5, fun x hx => loc_of (h6 x hx), fun y hy e => ?_⟩, h8⟩
  · split at h1
    · assumption
    · cases h1
  · have := h7 y hy
    rw [e] at this
    cases this
section
variable {P : Program} {w : World} {K : PySem.W.Frag} {mg : Str → Option Value} {base : Heap}
theorem cxt_of {k : Nat} {N ps : List Str} {qual : Str} {scope : Scope} {f : Addr} {cdv : Value} {A : Around} {outer : List PySem.Env} {s : Shared} {H : Hp} {E : XK} (hB : Blt mg) (S : FnScope N ps scope) (hr : Room k (A.deeper (envOfC qual scope s.heap.objs.size f cdv))) : Cxt (cxOf (L2.CX P w) P w K mg base N qual scope f cdv A outer s H E) k E :=
  ⟨rfl, hr, S.nd, hB, passes_call (takes_of rfl rfl rfl rfl) (fun _ _ _ _ h => h)⟩
end
end TK
namespace TK
open PySem PySem.Spec PyProof.Rows L2
section
variable {x y : D} {st st' : DSt} {r : Except Str D}
theorem opTok_inv {o : Nat} (h : opTok o x y st = some (r, st')) : (isTok x = true ∧ ∃ d, tokOp o st = some d ∧ r = .ok d ∧ st' = st) ∨ ∃ l d, scrOf x = some l ∧ scrOp o l y = some d ∧ r = .ok d ∧ st' = st := by
  unfold opTok at h
  cases hk : isTok x with
  | true =>
    rw [hk, if_pos rfl, Option.map_eq_some_iff] at h
    obtain ⟨d, h1, h2⟩ := h
    cases h2
    exact .inl ⟨rfl, d, h1, rfl, rfl⟩
  | false =>
    rw [hk, if_neg Bool.false_ne_true, Option.map_eq_some_iff] at h
    obtain ⟨d, h1, h2⟩ := h
    cases h2
    rw [Option.bind_eq_some_iff] at h1
    obtain ⟨l, h3, h4⟩ := h1
    exact .inr ⟨l, d, h3, h4, rfl, rfl⟩
theorem scrOf_eq {l : List D} (h : scrOf x = some l) : x = .dict [(.none, .list l)] := by
  unfold scrOf at h
  split at h
  · cases h; rfl
  · cases h
theorem opTok0 (h : opTok 0 x y st = some (r, st')) : isTok x = true ∧ r = .ok (.int st.length) ∧ st' = st := by
  rcases opTok_inv h with ⟨h1, d, h2, h3, h4⟩ | ⟨l, d, h1, h2, h3, h4⟩
  · cases h2; exact ⟨h1, h3, h4⟩
  · cases h2
theorem opTok1 (h : opTok 1 x y st = some (r, st')) : isTok x = true ∧ ∃ n t, st = n :: t ∧ r = .ok (.int n) ∧ st' = st := by
  rcases opTok_inv h with ⟨h1, d, h2, h3, h4⟩ | ⟨l, d, h1, h2, h3, h4⟩
  · cases st with
    | nil => cases h2
    | cons n t => cases h2; exact ⟨h1, n, t, rfl, h3, h4⟩
  · cases h2
theorem opTok2 (h : opTok 2 x y st = some (r, st')) : isTok x = true ∧ r = .ok (.bool (!st.isEmpty)) ∧ st' = st := by
  rcases opTok_inv h with ⟨h1, d, h2, h3, h4⟩ | ⟨l, d, h1, h2, h3, h4⟩
  · cases h2; exact ⟨h1, h3, h4⟩
  · cases h2
theorem opTok3 (h : opTok 3 x y st = some (r, st')) : ∃ l, x = .dict [(.none, .list l)] ∧ r = .ok (.int l.length) ∧ st' = st := by
  rcases opTok_inv h with ⟨h1, d, h2, h3, h4⟩ | ⟨l, d, h1, h2, h3, h4⟩
  · cases st <;> cases h2
  · cases h2; exact ⟨l, scrOf_eq h1, h3, h4⟩
theorem opTok4 (h : opTok 4 x y st = some (r, st')) : ∃ l j z, x = .dict [(.none, .list l)] ∧ y = .int j ∧ atI l j = some z ∧ r = .ok z ∧ st' = st := by
  rcases opTok_inv h with ⟨h1, d, h2, h3, h4⟩ | ⟨l, d, h1, h2, h3, h4⟩
  · cases st <;> cases h2
  · cases y with
    | int j => exact ⟨l, j, d, scrOf_eq h1, rfl, h2, h3, h4⟩
    | _ => cases h2
theorem opTok5 (h : opTok 5 x y st = some (r, st')) : ∃ l, x = .dict [(.none, .list l)] ∧ r = .ok (.bool (!l.isEmpty)) ∧ st' = st := by
  rcases opTok_inv h with ⟨h1, d, h2, h3, h4⟩ | ⟨l, d, h1, h2, h3, h4⟩
  · cases st <;> cases h2
  · cases h2; exact ⟨l, scrOf_eq h1, h3, h4⟩
theorem intOf_eq {n : Int} (h : intOf x = some n) : x = .int n := by
  unfold intOf at h
  split at h
  · cases h; rfl
  · cases h
end
section
variable {X : Cx} {E : XK} {Γ : List FnSem} {k : Nat} {pos : Pos}
abbrev nn : TK.E := .con .none
theorem op3_inv {env : Env} {i o : Nat} {st st' : DSt} {r : Except Str D} (q : ev Γ env (.op3 o (.var i) nn nn) st = some (r, st')) : ∃ x, getB env i = some x ∧ opTok o x .none st = some (r, st') := by
  have q : (liftO (getB env i) >>= fun x => (pure .none : M D) >>= fun y => opTok o x y) st = some (r, st') := q
  rcases bind_inv q with ⟨c, h1, rfl⟩ | ⟨x, st1, h1, h2⟩
  · obtain ⟨_, _, z, _⟩ := liftO_inv h1; cases z
  · obtain ⟨_, h3, z, rfl⟩ := liftO_inv h1
    cases z
    exact ⟨x, h3, h2⟩
theorem e_tLen {i : Nat} {x : Str} {p p2 : Pos} (c : Cxt X k E) (hg : Gl X "len") (hN : X.N[i]? = some x) (hv : visB X.env.scope x = true) (ho : okN x = true) : PE X (.Call (.Name "len" p) [.Name x p2] [] pos) (rd X.K X.mg E Γ (.op3 0 (.var i) nn nn)) := by
  refine (pe_callB call_len hg (c.blt _ (mem_blt (by decide +kernel))) boot_len (pa_cons (pe_var hN (vis_of hv) (okN1 ho) (okN2 ho)) pa_nil rfl) (by decide +kernel) (by decide +kernel) rfl rfl).weak fun σ H Q q => ?_
  obtain ⟨w, O0, H0, O, env, st, rr, st', R, q, oo⟩ := q
  obtain ⟨d, h1, h2⟩ := op3_inv q
  obtain ⟨h3, rfl, rfl⟩ := opTok0 h2
  obtain ⟨v, e1, e2⟩ := R.getB h1
  obtain rfl := bp_tok e2 h3
  exact ⟨_, e1, _, st'.length, rfl, .inl ⟨_, SqL.of R.sts, by rw [List.length_map]⟩, oo H R.here _ (.int _)⟩
theorem e_cLen {i : Nat} {x : Str} {p p2 : Pos} (c : Cxt X k E) (hg : Gl X "len") (hN : X.N[i]? = some x) (hv : visB X.env.scope x = true) (ho : okN x = true) : PE X (.Call (.Name "len" p) [.Name x p2] [] pos) (rd X.K X.mg E Γ (.op3 3 (.var i) nn nn)) := by
  refine (pe_callB call_len hg (c.blt _ (mem_blt (by decide +kernel))) boot_len (pa_cons (pe_var hN (vis_of hv) (okN1 ho) (okN2 ho)) pa_nil rfl) (by decide +kernel) (by decide +kernel) rfl rfl).weak fun σ H Q q => ?_
  obtain ⟨w, O0, H0, O, env, st, rr, st', R, q, oo⟩ := q
  obtain ⟨d, h1, h2⟩ := op3_inv q
  obtain ⟨l, h3, rfl, rfl⟩ := opTok3 h2
  obtain ⟨v, e1, e2⟩ := R.getB h1
  obtain ⟨rfl, rfl⟩ := bp_scr e2 h3
  refine ⟨_, e1, _, w.ns.length, rfl, .inl ⟨_, hid_le.sqL R.scr, by rw [List.length_map]⟩, ?_⟩
  have := oo H R.here (.int (w.ns.length : Int)) (by rw [List.length_map]; exact .int _)
  exact this
theorem e_tIx0 {i j : Nat} {x : Str} {p p2 : Pos} (hN : X.N[i]? = some x) (hv : visB X.env.scope x = true) (ho : okN x = true) : PE X (.Subscript (.Name x p) (.Constant (.int 0) j p2) pos) (rd X.K X.mg E Γ (.op3 1 (.var i) nn nn)) := by
  refine (pe_ix ix_list (pe_var hN (vis_of hv) (okN1 ho) (okN2 ho)) pe_int (fun _ _ => rfl)).weak fun σ H Q q => ?_
  obtain ⟨w, O0, H0, O, env, st, rr, st', R, q, oo⟩ := q
  obtain ⟨d, h1, h2⟩ := op3_inv q
  obtain ⟨h3, n, t, rfl, rfl, rfl⟩ := opTok1 h2
  obtain ⟨v, e1, e2⟩ := R.getB h1
  obtain rfl := bp_tok e2 h3
  refine ⟨_, e1, _, _, 0, .int n, rfl, rfl, SqL.of R.sts, ?_, oo H R.here _ (.int _)⟩
  simp [atI, ixN]
theorem e_cIx {i : Nat} {x : Str} {b : Expr} {B : TK.E} {p : Pos} (hp : ∀ o i, subscripted b false o i = operate [o, i] (getItem o i)) (hN : X.N[i]? = some x) (hv : visB X.env.scope x = true) (ho : okN x = true) (hb : PE X b (rdB X.K X.mg E Γ B)) : PE X (.Subscript (.Name x p) b pos) (rd X.K X.mg E Γ (.op3 4 (.var i) B nn)) := by
  refine (pe_ix ix_list (pe_var hN (vis_of hv) (okN1 ho) (okN2 ho)) hb hp).weak fun σ H Q q => ?_
  obtain ⟨w, O0, H0, O, env, st, rr, st', R, q, oo⟩ := q
  have q : (liftO (getB env i) >>= fun x => orB env B (ev Γ env B) >>= fun y => opTok 4 x y) st = some (rr, st') := q
  rcases bind_inv q with ⟨c, h1, rfl⟩ | ⟨d, st1, h1, h2⟩
  · obtain ⟨_, _, z, _⟩ := liftO_inv h1; cases z
  obtain ⟨_, h3, z, rfl⟩ := liftO_inv h1
  cases z
  obtain ⟨v, e1, e2⟩ := R.getB h3
  refine ⟨v, e1, ?_⟩
  refine rdB_bind R h2 oo fun y st2 u H1 R1 p1 bu g1 o1 => ?_
  obtain ⟨l, j, z, h4, rfl, h5, rfl, rfl⟩ := opTok4 g1
  obtain ⟨rfl, rfl⟩ := bp_scr e2 h4
  obtain rfl := bu.int
  unfold atI at h5
  rw [Option.bind_eq_some_iff] at h5
  obtain ⟨m, h6, h7⟩ := h5
  rw [List.length_map] at h6
  rw [List.getElem?_map] at h7
  cases hz : w.ns[m]? with
  | none => rw [hz] at h7; cases h7
  | some n =>
    rw [hz] at h7
    cases h7
    refine ⟨_, _, j, .int n, rfl, rfl, hid_le.sqL R1.scr, ?_, o1 H1 R1.here _ (.int _)⟩
    unfold atI
    rw [List.length_map, h6]
    show (w.ns.map V.int)[m]? = _
    rw [List.getElem?_map, hz]
    rfl
theorem p_tok {i : Nat} {x : Str} (hN : X.N[i]? = some x) (hv : visB X.env.scope x = true) (ho : okN x = true) (he : ∀ whole, isTrue (.Name x pos) X.env whole = (do let v ← whole; standAt (Expr.Name x pos).pos; holding [v] (truthy v))) : PT X (.Name x pos) (rdT X.K X.mg E Γ (.op3 2 (.var i) nn nn)) := by
  refine (pt_truth (pe_var hN (vis_of hv) (okN1 ho) (okN2 ho)) he).weak fun σ H Q q => ?_
  obtain ⟨w, O0, H0, O, env, st, rr, st', R, q, oo⟩ := q
  have q : (ev Γ env (.op3 2 (.var i) nn nn) >>= tru) st = some (rr, st') := q
  rcases bind_inv q with ⟨c, h1, rfl⟩ | ⟨d, st1, h1, h2⟩
  · obtain ⟨_, _, h2⟩ := op3_inv h1
    obtain ⟨_, z, _⟩ := opTok2 h2
    cases z
  · obtain ⟨d', g1, g2⟩ := op3_inv h1
    obtain ⟨g3, z, rfl⟩ := opTok2 g2
    cases z
    obtain ⟨b, h4, rfl, rfl⟩ := tru_inv h2
    cases h4
    obtain ⟨v, e1, e2⟩ := R.getB g1
    obtain rfl := bp_tok e2 g3
    refine ⟨_, e1, _, .inl ⟨_, SqL.of R.sts, ?_⟩, oo H R.here⟩
    cases st' <;> rfl
theorem p_scr {i : Nat} {x : Str} (hN : X.N[i]? = some x) (hv : visB X.env.scope x = true) (ho : okN x = true) (he : ∀ whole, isTrue (.Name x pos) X.env whole = (do let v ← whole; standAt (Expr.Name x pos).pos; holding [v] (truthy v))) : PT X (.Name x pos) (rdT X.K X.mg E Γ (.op3 5 (.var i) nn nn)) := by
  refine (pt_truth (pe_var hN (vis_of hv) (okN1 ho) (okN2 ho)) he).weak fun σ H Q q => ?_
  obtain ⟨w, O0, H0, O, env, st, rr, st', R, q, oo⟩ := q
  have q : (ev Γ env (.op3 5 (.var i) nn nn) >>= tru) st = some (rr, st') := q
  rcases bind_inv q with ⟨c, h1, rfl⟩ | ⟨d, st1, h1, h2⟩
  · obtain ⟨_, _, h2⟩ := op3_inv h1
    obtain ⟨_, _, z, _⟩ := opTok5 h2
    cases z
  · obtain ⟨d', g1, g2⟩ := op3_inv h1
    obtain ⟨l, g3, z, rfl⟩ := opTok5 g2
    cases z
    obtain ⟨b, h4, rfl, rfl⟩ := tru_inv h2
    cases h4
    obtain ⟨v, e1, e2⟩ := R.getB g1
    obtain ⟨rfl, rfl⟩ := bp_scr e2 g3
    refine ⟨_, e1, _, .inl ⟨_, hid_le.sqL R.scr, ?_⟩, oo H R.here⟩
    cases w.ns <;> rfl
theorem x_tokApp {x : Str} {i : Nat} {e : Expr} {A : TK.E} {p0 apos cpos : Pos} (hN : X.N[i]? = some x) (hv : visB X.env.scope x = true) (ho : okN x = true) (hs : notStar e = true) (hbase : attributeBase (.Name x p0) "append" X.env (eval (.Name x p0) X.env) = eval (.Name x p0) X.env) (hline : (apos.endLine == cpos.line) = true) (he : PE X e (rd X.K X.mg E Γ A)) :
    PS X (.Expr (.Call (.Attribute (.Name x p0) "append" apos) [e] [] cpos) pos) (rdS X.K X.mg E Γ (.tokApp i A)) := by
  refine (ps_expr (pe_bm PySem.F.plainAttrs_list PySem.F.slot_list_append rfl mt_append (pe_var hN (vis_of hv) (okN1 ho) (okN2 ho)) (pa_cons he pa_nil (star_ok hs)) hbase (few_ok hs) hline (star_ok hs) rfl) rfl).weak fun D σ H q => ?_
  obtain ⟨w, O0, H0, O, env, st, r, st', R, q, o⟩ := q
  have q : (liftO (getV env i) >>= fun t => if isTok t then (ev Γ env A >>= fun d => liftO (intOf d) >>= fun n => appTok n >>= fun _ => (pure (.nx, env) : M (Fl × Env))) else fail) st = some (r, st') := q
  rcases bind_inv q with ⟨c, g1, rfl⟩ | ⟨t, st0, g1, q2⟩
  · obtain ⟨_, _, z, _⟩ := liftO_inv g1; cases z
  obtain ⟨_, ht, z, rfl⟩ := liftO_inv g1
  cases z
  obtain ⟨hk, q3⟩ := ite_ok q2
  obtain ⟨v, e1, e2⟩ := R.getV ht
  obtain rfl := tok_of e2 hk
  refine ⟨_, e1, .inl ⟨rfl, _, SqL.of R.sts⟩, ?_⟩
  rcases bind_inv q3 with ⟨c, g1, rfl⟩ | ⟨d, st1, g1, g2⟩
  · exact ⟨w, O0, H0, O, env, _, .error c, _, R, g1, o.err R⟩
  · refine ⟨w, O0, H0, O, env, _, .ok d, st1, R, g1, fun H1 p1 v rp => ?_⟩
    have R1 := R.post p1
    rcases bind_inv g2 with ⟨c, g3, rfl⟩ | ⟨n, st2, g3, g4⟩
    · obtain ⟨_, _, z, _⟩ := liftO_inv g3; cases z
    obtain ⟨_, hn, z, rfl⟩ := liftO_inv g3
    cases z
    obtain rfl := intOf_eq hn
    cases rp
    rcases bind_inv g4 with ⟨c, g5, rfl⟩ | ⟨u, st3, g5, g6⟩
    · unfold appTok at g5
      split at g5 <;> cases g5
    · unfold appTok at g5
      split at g5
      · rename_i hlt
        cases g5
        obtain ⟨rfl, rfl⟩ := pure_inv g6
        refine ⟨w.ps, _, .int n, rfl, rfl, R1.sts, by rw [List.length_map]; exact hlt, o O σ _ (R1.post ⟨⟨fun b u z ne e => ?_, fun b u z e => ?_⟩, ?_⟩)⟩
        · rw [upd_ne ne]; exact e
        · have ne : b ≠ w.ps := fun q => by rw [q, R1.sub _ R1.ops] at z; cases z
          exact ⟨u, by rw [upd_ne ne]; exact e, .refl u⟩
        · rw [upd_same, List.map_append]; rfl
      · cases g5
theorem x_tokSet {x : Str} {i j : Nat} {e : Expr} {A : TK.E} {p p2 pos' : Pos} (hN : X.N[i]? = some x) (hv : visB X.env.scope x = true) (ho : okN x = true) (hsw : swapsWithSole [.Subscript (.Name x p) (.Constant (.int 0) j p2) pos'] e pos.line X.env = pure false) (hw : swappedStores [.Subscript (.Name x p) (.Constant (.int 0) j p2) pos'] e X.env = pure none) (he : PE X e (rd X.K X.mg E Γ A)) :
    PS X (.Assign [.Subscript (.Name x p) (.Constant (.int 0) j p2) pos'] e pos) (rdS X.K X.mg E Γ (.tokSet i A)) := by
  refine (ps_asg he (pg_sub (pe_var hN (vis_of hv) (okN1 ho) (okN2 ho)) pe_int set_list (fun _ => rfl)) hsw hw rfl).weak fun D σ H q => ?_
  obtain ⟨w, O0, H0, O, env, st, r, st', R, q, o⟩ := q
  have q : (liftO (getV env i) >>= fun t => if isTok t then (ev Γ env A >>= fun d => liftO (intOf d) >>= fun n => setTok n >>= fun _ => (pure (.nx, env) : M (Fl × Env))) else fail) st = some (r, st') := q
  rcases bind_inv q with ⟨c, g1, rfl⟩ | ⟨t, st0, g1, q2⟩
  · obtain ⟨_, _, z, _⟩ := liftO_inv g1; cases z
  obtain ⟨_, ht, z, rfl⟩ := liftO_inv g1
  cases z
  obtain ⟨hk, q3⟩ := ite_ok q2
  obtain ⟨v, e1, e2⟩ := R.getV ht
  obtain rfl := tok_of e2 hk
  rcases bind_inv q3 with ⟨c, g1, rfl⟩ | ⟨d, st1, g1, g2⟩
  · exact ⟨w, O0, H0, O, env, _, .error c, _, R, g1, o.err R⟩
  · refine ⟨w, O0, H0, O, env, _, .ok d, st1, R, g1, fun H1 p1 v rp => ⟨_, e1, ?_⟩⟩
    have R1 := R.post p1
    rcases bind_inv g2 with ⟨c, g3, rfl⟩ | ⟨n, st2, g3, g4⟩
    · obtain ⟨_, _, z, _⟩ := liftO_inv g3; cases z
    obtain ⟨_, hn, z, rfl⟩ := liftO_inv g3
    cases z
    obtain rfl := intOf_eq hn
    cases rp
    rcases bind_inv g4 with ⟨c, g5, rfl⟩ | ⟨u, st3, g5, g6⟩
    · cases st2 <;> cases g5
    · cases st2 with
      | nil => cases g5
      | cons m t =>
        cases g5
        obtain ⟨rfl, rfl⟩ := pure_inv g6
        refine ⟨w.ps, _, 0, 0, rfl, rfl, R1.sts, by simp [ixN], o O σ _ (R1.post ⟨⟨fun b u z ne e => ?_, fun b u z e => ?_⟩, ?_⟩)⟩
        · rw [upd_ne ne]; exact e
        · have ne : b ≠ w.ps := fun q => by rw [q, R1.sub _ R1.ops] at z; cases z
          exact ⟨u, by rw [upd_ne ne]; exact e, .refl u⟩
        · rw [upd_same]; rfl
end
end TK
namespace TK
open PySem PySem.Spec PyProof.Rows L2
def lawEnv (n i1 : Nat) (ns : List Int) : Env := (Slot.val (scr ns) :: List.replicate (n - 1) .no).set i1 (.val tok)
def spLaw (K : PySem.W.Frag) (n : Nat) : Sp := fun vs H Q _ => ∃ (a : Addr) (ns : List Int), vs = [.ref a] ∧ SqL K H a (ns.map V.int) ∧ ns.length ≤ n ∧ ∀ H', Q (.bl true) H'
section
variable {P : Program} {w : World} {K : PySem.W.Frag} {mg : Str → Option Value} {base : Heap}
theorem law_of {params : Arguments} {body rest : List Stmt} {scope : Scope} {f : Addr} {fd : FuncData} {k n i1 : Nat} {Γ : List FnSem} {B : List S} {p1 p2 p3 : Pos} (N : List Str) (hB : Blt mg) (F : FunD K "law" "law" params body scope [] [] f fd) (S : fnScB N ["script"] scope = true)
    (hb : body = .Assign [.Name "state" p1] (.List [] p2) p3 :: rest) (hi : N[i1]? = some "state") (h0 : decide (0 < i1) = true) (hloc : locB scope "state" = true)
    (hbody : ∀ (cdv : Value) (A : Around) (outer : List PySem.Env) (s : Shared) (H : Hp) (E : XK), Cxt (cxOf CX0 P w K mg base N "law" scope f cdv A outer s H E) k E0 → OwnP (cxOf CX0 P w K mg base N "law" scope f cdv A outer s H E) →
      PSs (cxOf CX0 P w K mg base N "law" scope f cdv A outer s H E) rest (rdSs (cxOf CX0 P w K mg base N "law" scope f cdv A outer s H E).K (cxOf CX0 P w K mg base N "law" scope f cdv A outer s H E).mg E0 Γ B))
    (hrun : ∀ ns : List Int, ns.length ≤ n → ∃ e st', exs Γ B (lawEnv N.length i1 ns) [] = some (.ok (.rt (.bool true), e), st')) : FnOk P w K mg base CX0 (k + 1) f fd ["script"] (spLaw K n) := by
  subst hb
  have S1 := (fnSc_of S).1
  refine F.ok S1 (fun vs H Q E q => ?_) (fun cdv A outer s H vs Q E hr q => ⟨_, pss_cons (ps_set (i := i1) S1.nd hi (loc_of hloc) (pe_lst pa_nil) rfl (.inl rfl)) (hbody cdv A outer s H E ⟨rfl, hr, S1.nd, hB, passL⟩ (passes_of rfl)), ?_⟩)
  · obtain ⟨a, ns, rfl, _⟩ := q
    rfl
  · obtain ⟨a, ns, rfl, hS, hn, hQ⟩ := q
    refine ⟨Nat.zero_le _, fun p hp => ?_⟩
    obtain ⟨e, st', hx⟩ := hrun ns hn
    have h0 := of_decide_eq_true h0
    have hlt : i1 < N.length := (List.getElem?_eq_some_iff.mp hi).1
    have R : Rel K ⟨p, a, ns, []⟩ (fun b => decide (b = p)) (upd H p (.lst [])) (fun b => decide (b = p)) ((L2.start N [.ref a]).set i1 (some (.ref p))) (upd H p (.lst [])) (lawEnv N.length i1 ns) [] := by
      have hen : ∀ {i : Nat} {s : Slot}, (lawEnv N.length i1 ns)[i]? = some s → s = .no ∨ (i = 0 ∧ s = .val (scr ns)) ∨ (i = i1 ∧ s = .val tok) := fun {i s} h => by
        unfold lawEnv at h
        by_cases e : i1 = i
        · subst e
          rw [List.getElem?_set_self (by rw [List.length_cons, List.length_replicate]; omega)] at h
          cases h
          exact .inr (.inr ⟨rfl, rfl⟩)
        · rw [List.getElem?_set_ne e] at h
          cases i with
          | zero => cases h; exact .inr (.inl ⟨rfl, rfl⟩)
          | succ i =>
            rw [List.getElem?_cons_succ] at h
            exact .inl (List.eq_of_mem_replicate (List.mem_of_getElem? h))
      have hst : (L2.start N [.ref a]).length = N.length := by
        unfold L2.start
        simp
        omega
      refine ⟨Ext.refl, fun _ h => h, fun b h => ?_, fun b h => ?_, (fun b h h' => by rw [h] at h'; cases h'), by simp, upd_same, ?_, ?_, fun i d h => ?_, fun i d h => ?_, fun i j q di dj h => ?_⟩
      · rw [of_decide_eq_true h, upd_same]; intro z; cases z
      · rw [of_decide_eq_true h, upd_same]; exact trivial
      · refine Le.sqL (fun b o e => ?_) hS
        have ne : b ≠ p := ne_of_none e hp
        exact ⟨o, by rw [hid_of (by simp [ne]), upd_ne ne]; exact e, .refl o⟩
      · rw [List.length_set, hst]
        unfold lawEnv
        rw [List.length_set, List.length_cons, List.length_replicate]
        omega
      · rcases hen h with z | ⟨rfl, z⟩ | ⟨rfl, z⟩
        · cases z
        · cases z
          exact ⟨.ref a, by rw [List.getElem?_set_ne (by omega)]; rfl, .scr⟩
        · cases z
          exact ⟨.ref p, List.getElem?_set_self (by rw [hst]; exact hlt), .tok⟩
      · rcases hen h with z | ⟨rfl, z⟩ | ⟨rfl, z⟩ <;> cases z
      · rcases hen h with z | ⟨rfl, z⟩ | ⟨rfl, z⟩ <;> cases z
    exact ⟨_, _, _, _, _, _, _, _, R, hx, fun v H' _ rp => by cases rp; exact hQ H'⟩
end
end TK
namespace TK
open PySem PySem.Spec PyProof.Rows L2
open PySem.Spec in
theorem ext_list_tuple (l : Addr) (items : Array Value) (n : Nat) (b : Addr) (items2 : Array Value) (n2 : Nat) (dd : Option Addr) (sl : Array (Option Value)) (hs0 : ¬(!items.isEmpty && Builtin.List.listTooLong (items.size + items2.size)) = true) (hs1 : items.size ≤ sizeLine) (hs2 : items.size + items2.size ≤ sizeLine + 1) :
    Meets (Builtin.«list.extend» ⟨[.ref l, .ref b], []⟩) (fun _ R s => s.heap.get? l = some { cls := .type "list", dict := none, data := .seq items n, slots := #[] } ∧ s.heap.get? b = some { cls := .type "tuple", dict := dd, data := .seq items2 n2, slots := sl } ∧ R (.ok (.ret Value.none)) { s with heap := s.heap.update l (Obj.mapSeq fun x => x ++ items2), toks := s.toks }) :=
  .of_wp fun prog w A R s h => by
    obtain ⟨hp, g, d, tk, os⟩ := s; obtain ⟨hl, hb, h⟩ := h
    have hz' : (items ++ items2).size ≤ sizeLine + 1 := by rw [Array.size_append]; exact hs2
    wp_walk using (wpAny_updateSeq hl rfl (hz := hs1) (_hz' := hz')), wpAny_loadPart' hl, wpAny_loadPart' hb; exact ⟨_, rfl, h⟩
section
variable {X : Cx} {E : XK} {Γ : List FnSem} {k : Nat} {pos apos cpos : Pos}
def rExtA (K : PySem.W.Frag) : V → List V → Hp → VK → Prop := fun x vs H Q => ∃ l b xs zs, x = .ref l ∧ vs = [.ref b] ∧ H l = some (.lst xs) ∧ (H b = some (.lst zs) ∨ SqT K H b zs) ∧ xs.length + zs.length ≤ sizeLine ∧ Q .non (upd H l (.lst (xs ++ zs)))
theorem mt_extA : MtM X "list.extend" (rExtA X.K) := by
  intro pins s σ H x vs v us Q I rx rv h
  obtain ⟨l, b, xs, zs, rfl, rfl, hH, hB, hz, q⟩ := h
  rcases hB with hB | hB
  · exact mt_extend pins s σ H _ _ v us Q I rx rv ⟨l, b, xs, zs, rfl, rfl, hH, hB, hz, q⟩
  · cases rx
    obtain ⟨u, rfl, ru⟩ := rv.one
    cases ru
    obtain ⟨z, its, n, r, hl, e⟩ := I.lstM hH
    obtain ⟨its2, r2, ⟨o2, e2, hc2, n2, hd2⟩, hz2⟩ := I.tuple hB
    obtain ⟨c2, d2, dt2, sl2⟩ := o2
    simp only at hc2 hd2
    subst hc2 hd2
    have hl2 := r2.length
    have hsz : its.toArray.size + its2.toArray.size ≤ sizeLine := by rw [List.size_toArray, List.size_toArray]; omega
    have hlong : ¬ (!its.toArray.isEmpty && Builtin.List.listTooLong (its.toArray.size + its2.toArray.size)) = true := by
      rw [notLongL hsz, Bool.and_false]
      exact Bool.false_ne_true
    refine call_meets PySem.F.slot_list_extend ⟨_, e, rfl⟩ PySem.F.entry_list_extend (PySem.F.args_list_extend_2 _ _)
      (ext_list_tuple l its.toArray n b its2.toArray n2 d2 sl2 hlong (by rw [List.size_toArray]; omega) (by omega)) ⟨e, e2, ?_⟩
    refine ⟨.non, _, I.lset (its' := its ++ its2) hH e (by simp) (r.append r2) ?_, rfl, q⟩
    rw [List.length_append]
    omega
theorem x_extend {x : Str} {i : Nat} {e : Expr} {A : TK.E} {p0 : Pos} (hN : X.N[i]? = some x) (hv : Vis X.env.scope x) (hd : (x == ("__debug__" : Str)) = false) (hcd : (x == ("__classdict__" : Str)) = false) (he : PE X e (rd X.K X.mg E Γ A)) (hs : notStar e = true)
    (hbase : attributeBase (.Name x p0) "extend" X.env (eval (.Name x p0) X.env) = eval (.Name x p0) X.env) (hline : (apos.endLine == cpos.line) = true) :
    PS X (.Expr (.Call (.Attribute (.Name x p0) "extend" apos) [e] [] cpos) pos) (rdS X.K X.mg E Γ (.extend i A)) := by
  refine (ps_expr (pe_bm PySem.F.plainAttrs_list PySem.F.slot_list_extend rfl mt_extA (pe_var hN hv hd hcd) (pa_cons he pa_nil (star_ok hs)) hbase (few_ok hs) hline (star_ok hs) rfl) rfl).weak fun D σ H q => ?_
  obtain ⟨w, O0, H0, O, env, st, r, st', R, q, o⟩ := q
  have q : (liftO (ownL env i) >>= fun l => ev Γ env A >>= fun d => liftO (seqOf d) >>= fun m => if l.length + m.length ≤ lim then (pure (.nx, env.set i (.own (.list (l ++ m)))) : M (Fl × Env)) else fail) st = some (r, st') := q
  rcases bind_inv q with ⟨c, g1, rfl⟩ | ⟨l, st1, g1, g2⟩
  · obtain ⟨_, _, z, _⟩ := liftO_inv g1; cases z
  obtain ⟨_, hl, z, rfl⟩ := liftO_inv g1
  cases z
  have hl := ownL_inv hl
  obtain ⟨p, e1, e2, e3, e4⟩ := R.own i _ hl
  cases e4 with
  | lst a b =>
    refine ⟨_, e1, .inl ⟨rfl, _, SqL.of a⟩, ?_⟩
    rcases bind_inv g2 with ⟨c, g3, rfl⟩ | ⟨d, st2, g3, g4⟩
    · exact ⟨w, O0, H0, O, env, _, .error c, _, R, g3, o.err R⟩
    · refine ⟨w, O0, H0, O, env, _, .ok d, st2, R, g3, fun H1 p1 v rp => ?_⟩
      have R2 := R.post p1
      rcases bind_inv g4 with ⟨c, g5, rfl⟩ | ⟨m, st3, g5, g6⟩
      · obtain ⟨_, _, z, _⟩ := liftO_inv g5; cases z
      obtain ⟨_, hm, z, rfl⟩ := liftO_inv g5
      cases z
      split at g6
      · rename_i hlt
        obtain ⟨rfl, rfl⟩ := pure_inv g6
        have a' := p1.1.own p _ e2 (R.psne e3) a
        have b' := b.mono p1.1.le
        cases d with
        | list dm =>
          cases hm
          cases rp with
          | lst za zr => exact ⟨p, _, _, _, rfl, rfl, a', .inl (hid_some za).2, by rw [b.length, zr.length]; exact hlt, o _ _ _ (R2.writeOwn hl e1 fun le => .lst upd_same ((b'.append zr).mono le))⟩
        | tuple dm =>
          cases hm
          cases rp with
          | tup za zr => exact ⟨p, _, _, _, rfl, rfl, a', .inr (SqT.of (hid_some za).2), by rw [b.length, zr.length]; exact hlt, o _ _ _ (R2.writeOwn hl e1 fun le => .lst upd_same ((b'.append zr).mono le))⟩
        | _ => cases hm
      · cases g6
/-- the names in L are own exception classes over ValueError, none over another -/
structure XC (K : PySem.W.Frag) (mg : Str → Option Value) (L : List Str) : Prop where
  cls : ∀ c ∈ L, ∃ A, mg c = some (.ref A) ∧ PySem.W.excIn K A [.type "ValueError", .type "Exception", .type "BaseException", .type "object"] "ValueError.__new__" = true ∧ PySem.W.keepIn K (.ref A) = true ∧ PySem.W.subIn K (.ref A) (.type "BaseException") = some true ∧ PySem.W.typeIn K (.ref A) = some (.type "type")
  exm : ∀ c ∈ L, ∀ d ∈ L, ∀ A B, mg c = some (.ref A) → mg d = some (.ref B) → PySem.W.exmOne K (.ref A) (.ref B) = some (decide (c = d))
/-- what statements ask of the context -/
structure OwnX (X : Cx) (E : XK) (L : List Str) : Prop where
  own : OwnP X
  takes : Takes X (fun cls d _ H => E cls d H)
  stk : X.stack = X.env :: X.outer
  frm : X.env.frame = some X.env.locals
  exc : XC X.K X.mg L
theorem pmk_own0 {x : Str} {C : Addr} {bmB : List Value} {B newId initId : String} {p pos : Pos} (F : ExcBaseFacts B newId initId bmB) (q : PySem.W.excIn X.K C bmB newId = true) (gC : X.mg x = some (.ref C)) (kC : PySem.W.keepIn X.K (.ref C) = true) (r : Raises X (.ref C)) (hg : Gl X x)
    (hdb : (x == ("__debug__" : Str)) = false) : PMk X (.Call (.Name x p) [] [] pos) (fun _ H Q => Q (.ref C) none H) := by
  intro pins s σ H Q I h
  refine wpAny_Call_Name_kw (ld_glob I hg gC ?_ hdb)
  refine PySem.W.callWith_K0 I.kIn kC ?_
  obtain ⟨bm, N, nm, qn, bs, hdct, sn, sub, ab, col, dd, k0, k1, k2, k3, k5, mN, hC, hN, hni, T⟩ := exc_obj I.kIn q
  refine wpAny_call_exc_subT F T hC hN hni (fun h' e hm => ?_) (Nat.zero_le _)
  exact mk_of I hm r h (I.hok.gone hm.new)
theorem x_raise {c : Str} {L : List Str} {p p1 : Pos} (hc : X.calm = true) (o : OwnX X E L) (hL : c ∈ L) (hg : Gl X c) (hdb : (c == ("__debug__" : Str)) = false) : PS X (.Raise (some (.Call (.Name c p) [] [] p1)) none pos) (rdS X.K X.mg E Γ (.raise c)) := by
  obtain ⟨A, h1, h2, h3, h4, h5⟩ := o.exc.cls c hL
  refine (ps_raise hc o.takes (pmk_own0 PySem.F.excBase_ValueError h2 h1 h3 (raises_own h4 h5) hg hdb)).weak fun D σ H q => ?_
  obtain ⟨w, O0, H0, O, env, st, r, st', R, q, oo⟩ := q
  cases q
  exact oo A H h1 (R.post R.here).post0
/-- except clauses that return a text -/
inductive HdsL (X : Cx) (L : List Str) : List ExceptHandler → List (Str × D) → Prop
  | nil : HdsL X L [] []
  | cons {c m : Str} {np pos' p1 p2 : Pos} {j : Nat} {hds : List ExceptHandler} {hs : List (Str × D)} (hL : c ∈ L) (hg : Gl X c) (hdb : (c == ("__debug__" : Str)) = false) (hm : PyData.strOk m = true) (r : HdsL X L hds hs) :
      HdsL X L (.ExceptHandler (some (.Name c np)) none [.Return (some (.Constant (.str m) j p2)) p1] pos' :: hds) ((c, .str m) :: hs)
theorem HdsL.ok {L : List Str} {hds : List ExceptHandler} {hs : List (Str × D)} (xc : XC X.K X.mg L) (h : HdsL X L hds hs) : ∃ l, HdsOk X hds l ∧ ∀ (Wout : WX) (D : Ends) (c : Str) (d : TK.D) (A : Addr) (H : Hp) (σ : L2.St), c ∈ L → X.mg c = some (.ref A) → hs.lookup c = some d → (∀ m, d = .str m → PyData.strOk m = true → D.rt (.str m) H) → wMany X.K Wout D l (.ref A) none σ H := by
  induction h with
  | nil => exact ⟨[], .nil, fun _ _ _ _ _ _ _ _ _ h => by cases h⟩
  | @cons c m np pos' p1 p2 j hds hs hL hg hdb hm r ih =>
    obtain ⟨l, h1, h2⟩ := ih
    obtain ⟨B, b1, _⟩ := xc.cls c hL
    refine ⟨(.ref B, fun _ _ _ => tRet (tC (.str m))) :: l, .cons ⟨hg, hdb, .inl b1⟩ (fun a oe cls d pn _ _ => pss_one (ps_ret pe_str)) h1, fun Wout D c' d A H σ cL gA hl q => ?_⟩
    refine ⟨decide (c' = c), xc.exm c' cL c hL A B gA b1, fun e a _ => ?_, fun e => ?_⟩
    · have e := of_decide_eq_true e
      subst e
      rw [List.lookup_cons_self] at hl
      cases hl
      exact q m rfl hm
    · have e := of_decide_eq_false e
      rw [List.lookup_cons, beq_eq_false_iff_ne.mpr e] at hl
      exact h2 Wout D c' d A H σ cL gA hl q
theorem lookup_mem {L : List Str} {hds : List ExceptHandler} {hs : List (Str × D)} {c : Str} {d : D} (h : HdsL X L hds hs) (hl : hs.lookup c = some d) : c ∈ L := by
  induction h with
  | nil => cases hl
  | @cons c1 m np pos' p1 p2 j hds hs hL hg hdb hm r ih =>
    by_cases e : c = c1
    · rw [e]; exact hL
    · rw [List.lookup_cons, beq_eq_false_iff_ne.mpr e] at hl
      exact ih hl
theorem Cxt.tr (c : Cxt X k E) {pn : List (Addr × Obj)} {xe : Value → Shared → Prop} {W : WX} (tk : Takes (X.tr pn xe) W) : Cxt (X.tr pn xe) k (fun cls d H => ∀ σ, W cls d σ H) :=
  ⟨c.calm, c.room, c.nd, c.blt, passes_call tk fun _ _ σ _ h => h σ⟩
theorem x_try {L : List Str} {e : Expr} {T : TK.E} {h₀ : ExceptHandler} {hds : List ExceptHandler} {hs : List (Str × D)} {p1 : Pos} (c : Cxt X k E) (o : OwnX X E L)
    (hb : ∀ (pn : List (Addr × Obj)) (xe : Value → Shared → Prop) (E' : XK), Cxt (X.tr pn xe) k E' → PE (X.tr pn xe) e (rd X.K X.mg E' Γ T))
    (hh : HdsL X L (h₀ :: hds) hs) : PS X (.Try [.Return (some e) p1] (h₀ :: hds) [] [] pos) (rdS X.K X.mg E Γ (.tryR T hs)) := by
  obtain ⟨l, h1, h2⟩ := hh.ok o.exc
  refine (ps_try_many (Wout := fun cls d _ H => E cls d H) (tb := fun W => tRet (rd X.K X.mg (fun cls d H => ∀ σ, W cls d σ H) Γ T)) o.stk o.frm o.takes (fun W pn xe tk _ => pss_one (ps_ret (hb pn xe _ (c.tr tk)))) h1).weak fun D σ H q => ?_
  obtain ⟨w, O0, H0, O, env, st, r, st', R, q, oo⟩ := q
  have q : (tryM (ev Γ env T) hs >>= fun d => (pure (.rt d, env) : M (Fl × Env))) st = some (r, st') := q
  rcases bind_inv q with ⟨c, g1, rfl⟩ | ⟨d, st1, g1, g2⟩
  · unfold tryM at g1
    split at g1
    · split at g1 <;> cases g1
    · rename_i hne
      exact absurd g1 (hne _ _)
  · obtain ⟨rfl, rfl⟩ := pure_inv g2
    unfold tryM at g1
    split at g1
    · rename_i cc st2 g3
      split at g1
      · rename_i d' hl
        cases g1
        refine ⟨w, O0, H0, O, env, st, .error cc, _, R, g3, fun A H' m p σ' => h2 _ D cc d A H' σ' (lookup_mem hh hl) m hl fun mm e1 e2 => ?_⟩
        subst e1
        exact oo (.str mm) H' (R.post p).post0 (.str mm e2)
      · cases g1
    · exact ⟨w, O0, H0, O, env, st, .ok d, _, R, g1, fun H1 p v rp => oo v H1 (R.post p).post0 ((R.post p).rp0 rp)⟩
theorem mem_by {c : Str} {L : List Str} (h : L.contains c = true) : c ∈ L := List.contains_iff_mem.mp h
theorem y_extend {x : Str} {i : Nat} {e : Expr} {A : TK.E} {p0 : Pos} (hN : X.N[i]? = some x) (hv : visB X.env.scope x = true) (ho : okN x = true) (hs : notStar e = true) (hbase : attributeBase (.Name x p0) "extend" X.env (eval (.Name x p0) X.env) = eval (.Name x p0) X.env) (hline : (apos.endLine == cpos.line) = true) (he : PE X e (rd X.K X.mg E Γ A)) :
    PS X (.Expr (.Call (.Attribute (.Name x p0) "extend" apos) [e] [] cpos) pos) (rdS X.K X.mg E Γ (.extend i A)) := x_extend hN (vis_of hv) (okN1 ho) (okN2 ho) he hs hbase hline
theorem y_raise {c : Str} {L : List Str} {p p1 : Pos} (cx : Cxt X k E) (o : OwnX X E L) (hL : L.contains c = true) (hg : Gl X c) (ho : okN c = true) : PS X (.Raise (some (.Call (.Name c p) [] [] p1)) none pos) (rdS X.K X.mg E Γ (.raise c)) := x_raise cx.calm o (mem_by hL) hg (okN1 ho)
theorem h_nil {L : List Str} : HdsL X L [] [] := .nil
theorem h_cons {L : List Str} {c m : Str} {np pos' p1 p2 : Pos} {j : Nat} {hds : List ExceptHandler} {hs : List (Str × D)} (hL : L.contains c = true) (hg : Gl X c) (ho : okN c = true) (hm : PyData.strOk m = true) (r : HdsL X L hds hs) :
    HdsL X L (.ExceptHandler (some (.Name c np)) none [.Return (some (.Constant (.str m) j p2)) p1] pos' :: hds) ((c, .str m) :: hs) := .cons (mem_by hL) hg (okN1 ho) hm r
end
section
variable {P : Program} {w : World} {K : PySem.W.Frag} {mg : Str → Option Value} {base : Heap}
theorem good_defX {x : Str} {params : Arguments} {body : List Stmt} {scope : Scope} {f : Addr} {fd : FuncData} {k : Nat} {Γ : List FnSem} {fn : Fn} {L : List Str} (N ps : List Str) (hB : Blt mg) (hX : XC K mg L) (F : FunD K x x params body scope [] [] f fd) (gm : mg x = some (.ref f)) (S : fnScB N ps scope = true)
    (hb : ∀ (kV doc pm : Value) (an : Option Addr) (cdv ct : Value) (us : List Value), us.length = ps.length → bindArgs (PySem.W.fnOf x x params body scope .none kV doc pm an cdv ct) ⟨us, []⟩ = pure (ps.zip us))
    (hnp : fn.np = ps.length) (hnl : fn.nl = N.length)
    (hbody : ∀ (cdv : Value) (A : Around) (outer : List PySem.Env) (s : Shared) (H : Hp) (E : XK), Cxt (cxOf (L2.CX P w) P w K mg base N x scope f cdv A outer s H E) k E → OwnX (cxOf (L2.CX P w) P w K mg base N x scope f cdv A outer s H E) E L →
      PSs (cxOf (L2.CX P w) P w K mg base N x scope f cdv A outer s H E) body (rdSs (cxOf (L2.CX P w) P w K mg base N x scope f cdv A outer s H E).K (cxOf (L2.CX P w) P w K mg base N x scope f cdv A outer s H E).mg E Γ fn.body)) : FnGood P w K mg base (k + 1) x (run Γ fn) :=
  good_of F (fnSc_of S).1 gm (F.bindsN hb) hnp hnl (fnSc_of S).2 fun cdv A outer s H E hr => hbody cdv A outer s H E (cxt_of hB (fnSc_of S).1 hr) ⟨passes_of rfl, takes_of rfl rfl rfl rfl, rfl, rfl, hX⟩
theorem takes0 {X : Cx} : Takes X (fun cls d _ H => E0 cls d H) := fun u s' ⟨_, _, _, _, _, _, _, _, _, _, _, _, _, _, _, _, z⟩ => z.elim
theorem law_ofX {params : Arguments} {body rest : List Stmt} {scope : Scope} {f : Addr} {fd : FuncData} {k n i1 : Nat} {Γ : List FnSem} {B : List S} {L : List Str} {p1 p2 p3 : Pos} (N : List Str) (hB : Blt mg) (hX : XC K mg L) (F : FunD K "law" "law" params body scope [] [] f fd) (S : fnScB N ["script"] scope = true)
    (hb : body = .Assign [.Name "state" p1] (.List [] p2) p3 :: rest) (hi : N[i1]? = some "state") (h0 : decide (0 < i1) = true) (hloc : locB scope "state" = true)
    (hbody : ∀ (cdv : Value) (A : Around) (outer : List PySem.Env) (s : Shared) (H : Hp) (E : XK), Cxt (cxOf CX0 P w K mg base N "law" scope f cdv A outer s H E) k E0 → OwnX (cxOf CX0 P w K mg base N "law" scope f cdv A outer s H E) E0 L →
      PSs (cxOf CX0 P w K mg base N "law" scope f cdv A outer s H E) rest (rdSs (cxOf CX0 P w K mg base N "law" scope f cdv A outer s H E).K (cxOf CX0 P w K mg base N "law" scope f cdv A outer s H E).mg E0 Γ B))
    (hrun : ∀ ns : List Int, ns.length ≤ n → ∃ e st', exs Γ B (lawEnv N.length i1 ns) [] = some (.ok (.rt (.bool true), e), st')) : FnOk P w K mg base CX0 (k + 1) f fd ["script"] (spLaw K n) :=
  law_of N hB F S hb hi h0 hloc (fun cdv A outer s H E c o => hbody cdv A outer s H E c ⟨o, takes0, rfl, rfl, hX⟩) hrun
end
end TK
namespace L2
open PySem PySem.Spec PyProof.Rows
theorem tracedZ_sameBut {h h' base : Heap} {C e : Addr} {Z : Obj → Prop} {fl : Value} {m : Str → Option Value} (hn : h.Ns C m) (hs : Heap.SameBut C h h') (t : HandSPX.TracedZ h base e Z fl) : HandSPX.TracedZ h' base e Z fl := by
  obtain ⟨oe, vs, T, oT, ts, he, hz, hd, h1, hnT, hTe, hT, hdT, h3⟩ := t
  obtain ⟨oC, es, ep, hC, hdC, _⟩ := hn
  have ne : ∀ b o (vs : Array Value), h.get? b = some o → o.data = .fields vs → b ≠ C := fun b o vs hb hd q => by
    rw [q, hC] at hb
    cases hb
    rw [hdC] at hd
    cases hd
  exact ⟨oe, vs, T, oT, ts, (hs.2 e (ne e oe vs he hd)).trans he, hz, hd, h1, hnT, hTe, (hs.2 T (ne T oT ts hT hdT)).trans hT, hdT, h3⟩
section
variable {X : Cx} {pins pB : List (Addr × Obj)} {σ σB : St} {H H3 : Hp} {s3 s s' : Shared} {E : XK} {scope : Scope} {ce : PySem.Env} {fp : List Addr}
theorem comp_out (hs : X.stack = X.env :: X.outer) (hf : X.env.frame = some X.env.locals) (tk : Takes X (fun cls d _ H => E cls d H)) (I3 : Inv X pins σ H3 s3) (cL : ce.locals = s3.heap.objs.size) (cF : ce.frame = X.env.frame)
    (hfp : ∀ b ∈ fp, FpOk X pins H3 b ∧ b < s3.heap.objs.size) (I : Inv (X.blk s3 H3 scope ce fp) pB σB H s) {u : Value} (c : CX X.prog X.w X.stack H s E u s') :
    notedBy (model X.prog X.w) X.A ce (fun e s'' => CompFails (model X.prog X.w) X.A X.xe ce e s'') u s' := by
  obtain ⟨a, B, H', cls, d, rfl, fl, hok, ub, na, os, ag, hE⟩ := c
  have hfr : X.A.frames = some (X.env :: X.outer) := by rw [I3.ok.frames, hs]
  obtain ⟨m, hn, _⟩ := I.loc
  have hn : s.heap.Ns ce.locals m := hn
  have nC : H ce.locals = none := I.free
  have nfs : ce.locals ∉ frs X.stack := by
    intro hb
    obtain ⟨_, o, ho, _⟩ := I3.stack.mem hb
    have := Heap.lt_size ho
    rw [cL] at this
    exact absurd this (Nat.lt_irrefl _)
  -- the block's names, on the ground
  have hnB : B.Ns ce.locals m := by
    obtain ⟨oC, es, ep, hC, r⟩ := hn
    exact ⟨oC, es, ep, ub.keep _ _ hC nC nfs, r⟩
  have hnS : s'.heap.Ns ce.locals m := by
    obtain ⟨oC, es, ep, hC, r⟩ := hnB
    exact ⟨oC, es, ep, fl.1 _ _ hC, r⟩
  have nC' : H' ce.locals = none := by
    obtain ⟨oC, es, ep, hC, r⟩ := hn
    exact ub.free _ _ hC nC
  -- the ground without them
  obtain ⟨B', b1, b2⟩ := restrict B fun b => decide (b ≠ ce.locals)
  have bB : ∀ b o, B'.get? b = some o → B.get? b = some o ∧ b ≠ ce.locals := fun b o e => by
    by_cases q : b = ce.locals
    · rw [b2 b (by simp [q])] at e; cases e
    · rw [b1 b (by simp [q])] at e; exact ⟨e, q⟩
  have bN : ∀ b, B.get? b = none → B'.get? b = none := fun b e => by
    cases q : B'.get? b with
    | none => rfl
    | some o => rw [(bB b o q).1] at e; cases e
  have bC : B'.get? ce.locals = none := b2 _ (by simp)
  have bK : ∀ b o, B.get? b = some o → b ≠ ce.locals → B'.get? b = some o := fun b o e n => by rw [b1 b (by simp [n])]; exact e
  have fl' : HandSPX.FlyingZ B' (X.env :: X.outer) a (Zc cls d) s'.heap := by
    obtain ⟨f1, f2, f3, oe, vs, T, oT, ts, he, hz, hd, h1, hnT, r⟩ := fl
    rw [← hs]
    refine ⟨fun b o e => f1 b o (bB b o e).1, bN _ f2, funFrames_none f3 fun L hL => ?_, oe, vs, T, oT, ts, he, hz, hd, h1, bN _ hnT, r⟩
    exact bN _ (f3.mem hL).1
  show wpAny _ X.A (noteFrame (.ref a) ce) _ _ s'
  rw [noteFrame_env _ cF]
  refine HandSPX.looks_onZ Zc.steady hfr hf fl' fun h1 hh up1 => ?_
  refine ⟨m, hnS.upToSlots up1, fun h2 m2 hn2 hs2 => ?_⟩
  have hn1 : h1.Ns ce.locals m := hnS.upToSlots up1
  obtain ⟨g1, g2, g3, g4⟩ := hh
  have st2 : B'.StaysIn h2 := fun b o e => (hs2.2 b (bB b o e).2).trans (g1 b o e)
  have ff2 : h2.FunFrames B' (X.env :: X.outer) := Heap.FunFrames.sameBut hs2 hn2 g3
  have t2 := tracedZ_sameBut hn1 hs2 g4
  have held2 : HandSPX.HeldZ B' (X.env :: X.outer) a (Zc cls d) X.env.locals h2 := ⟨st2, g2, ff2, t2⟩
  unfold PySem.passOn
  obtain ⟨oe, vs, T, oT, ts, he, hz, hd, hv1, _⟩ := t2
  refine wpAny_bind (wpAny_field (s := { s' with heap := h2 }) he hd hv1 ?_)
  rw [if_neg (show ¬ ((Value.ref T == Value.none) = true) from by simp)]
  rw [cF, hf]
  refine wpAny_bind (HandSPX.setFlight_onZ (s := { s' with heap := h2 }) held2 fun h3 hh3 up3 => ?_)
  refine wpAny_throw ?_
  -- what the def has of it
  have stB : B'.StaysIn s'.heap := fl'.1
  obtain ⟨G, r1, r2⟩ := restrict s'.heap fun b => (B'.get? b).isSome || decide (b ∈ frs X.stack)
  have gB : ∀ b o, B'.get? b = some o → G.get? b = some o := fun b o e => by
    rw [r1 b (by simp [e])]
    exact stB b o e
  have gF : ∀ b, b ∈ frs X.stack → G.get? b = s'.heap.get? b := fun b hb => r1 b (by simp [hb])
  have og : ∀ b o, G.get? b = some o → s'.heap.get? b = some o ∧ ((B'.get? b).isSome = true ∨ b ∈ frs X.stack) := fun b o e => by
    cases q : ((B'.get? b).isSome || decide (b ∈ frs X.stack)) with
    | false => rw [r2 b q] at e; cases e
    | true =>
      rw [r1 b q] at e
      exact ⟨e, by simpa [Bool.or_eq_true] using q⟩
  have hokB : HOk X.prog X.w H' B' := fun b o e => (hok b o e).stay (fun b' u hb q => bK b' u q fun z => by
      rw [z] at hb
      rcases hb with hb | hb
      · rw [← hb, nC'] at e; cases e
      · rw [nC'] at hb; cases hb) (fun _ r => r) fun _ _ r => r
  have un : Un (frs X.stack) fp H3 H s3.heap s.heap := I.base
  have lt3 : ∀ b o, s3.heap.get? b = some o → b ≠ ce.locals := fun b o e z => by
    have := Heap.lt_size e
    rw [z, cL] at this
    exact absurd this (Nat.lt_irrefl _)
  refine tk _ _ ⟨a, B', { s3 with heap := G, gens := s'.gens, drawn := s'.drawn, toks := s'.toks }, pins, σ, H', cls, d, rfl, ?_, fun b o e hb => ?_, ?_, .inr (.inr (by rw [hs]; exact hh3)), na, os.trans I.os, ag, hE⟩
  · refine I3.call (ch := fp) ⟨fun b o e n hb hx => ?_, fun b o e n hb hx => ?_, fun b o e n hx => ?_, fun b o e hx => ?_, fun b xs e => ub.tups b xs (un.tups b xs e), fun b o u e => ub.frzs b o u (un.frzs b o u e), fun b ps e => ?_⟩ (hokB.kept gB) ag fun b hb => ⟨(hfp b hb).1.2.2.2.1, (hfp b hb).1.2.1, (hfp b hb).1.2.2.2.2.1, (hfp b hb).1.2.2.2.2.2⟩
    · exact gB b o (bK b o (ub.keep b o (un.keep b o e n hb hx) (un.free b o e n hx) hb) (lt3 b o e))
    · obtain ⟨sl, e1⟩ := un.slot b o e n hb hx
      obtain ⟨sl2, e2⟩ := ub.slot b _ e1 hb
      exact ⟨sl2, by rw [gF b hb]; exact e2⟩
    · obtain ⟨o1, e1⟩ := un.there b o e hx
      exact ub.free b o1 e1 (un.free b o e n hx)
    · obtain ⟨o1, e1⟩ := un.there b o e hx
      by_cases hb : b ∈ frs X.stack
      · obtain ⟨sl, q⟩ := ub.slot b o1 e1 hb
        exact ⟨_, by rw [gF b hb]; exact q⟩
      · obtain ⟨o2, q⟩ := ub.there b o1 e1 hb
        exact ⟨o2, gB b o2 (bK b o2 q (lt3 b o e))⟩
    · obtain ⟨more, e1⟩ := un.tbls b ps e
      obtain ⟨more2, e2⟩ := ub.tbls b _ e1
      exact ⟨more ++ more2, by rw [e2]; simp⟩
  · obtain ⟨e', h⟩ := og b o e
    rcases h with h | h
    · obtain ⟨o', q⟩ := Option.isSome_iff_exists.mp h
      have z := stB b o' q
      rw [e'] at z; cases z
      exact q
    · exact absurd h hb
  · intro b o e hnf
    obtain ⟨e', h⟩ := og b o e
    have neC : b ≠ ce.locals := fun z => by
      rcases h with h | h
      · rw [z, bC] at h; cases h
      · rw [z] at h; exact nfs h
    obtain ⟨sl1, q1⟩ := up1 b o e' hnf
    have q2 : h2.get? b = some { o with slots := sl1 } := (hs2.2 b neC).trans q1
    obtain ⟨sl3, q3⟩ := up3 b _ q2 hnf
    exact ⟨sl3, q3⟩
end
end L2
namespace L2
open PySem PySem.Spec PyProof.Rows
abbrev Cx.blkX (X : Cx) (s : Shared) (H : Hp) (scope : Scope) (cenv : PySem.Env) (fp : List Addr) (xe : Value → Shared → Prop) : Cx := { X.blk s H scope cenv fp with xe := xe }
section
variable {X : Cx}
theorem Inv.toX {s0 s : Shared} {H0 H : Hp} {scope : Scope} {ce : PySem.Env} {fp : List Addr} {pins : List (Addr × Obj)} {σ : St} {xe : Value → Shared → Prop} (I : Inv (X.blk s0 H0 scope ce fp) pins σ H s) : Inv (X.blkX s0 H0 scope ce fp xe) pins σ H s :=
  ⟨⟨I.ok.mod, I.ok.kind, I.ok.glob, I.ok.blt, I.ok.above, I.ok.inj, I.ok.has, I.ok.cab, I.ok.hd, I.ok.frames, I.ok.stk, I.ok.exf, I.ok.bs, I.ok.bsz, I.ok.noex, I.ok.exfs, I.ok.funs, I.ok.frf⟩, I.os, I.bare, I.base, I.loc, I.cell, I.free, I.freeC, I.pin, I.hok, I.len⟩
theorem Inv.ofX {s0 s : Shared} {H0 H : Hp} {scope : Scope} {ce : PySem.Env} {fp : List Addr} {pins : List (Addr × Obj)} {σ : St} {xe : Value → Shared → Prop} (I : Inv (X.blkX s0 H0 scope ce fp xe) pins σ H s) : Inv (X.blk s0 H0 scope ce fp) pins σ H s :=
  ⟨⟨I.ok.mod, I.ok.kind, I.ok.glob, I.ok.blt, I.ok.above, I.ok.inj, I.ok.has, I.ok.cab, I.ok.hd, I.ok.frames, I.ok.stk, I.ok.exf, I.ok.bs, I.ok.bsz, I.ok.noex, I.ok.exfs, I.ok.funs, I.ok.frf⟩, I.os, I.bare, I.base, I.loc, I.cell, I.free, I.freeC, I.pin, I.hok, I.len⟩
theorem pe_lcX {E : XK} {elt tg iter : Expr} {ifs : List Expr} {scope : Scope} {own : List (Str × Nat)} {pos : Pos} {wi : TI} {g : TG} {tt : TT} {te : TE} (hst : X.stack = X.env :: X.outer) (hfm : X.env.frame = some X.env.locals) (tk : Takes X (fun cls d _ H => E cls d H))
    (hc : X.calm = true) (hN : X.N.Nodup) (hi : PI X tg iter wi) (ok : BlkOk X.N X.env.scope scope own)
    (hg : ∀ (s : Shared) (H : Hp) (C : Addr) (cl : List (Str × Addr)) (fp : List Addr), PG (X.blk s H scope (compEnvC scope cl C X.env) fp) tg g) (ht : ∀ (s : Shared) (H : Hp) (C : Addr) (cl : List (Str × Addr)) (fp : List Addr), PTs (X.blk s H scope (compEnvC scope cl C X.env) fp) ifs tt)
    (he : ∀ (s : Shared) (H : Hp) (C : Addr) (cl : List (Str × Addr)) (fp : List Addr) (xe : Value → Shared → Prop), Passes (CX X.prog X.w) (X.blkX s H scope (compEnvC scope cl C X.env) fp xe) E → PE (X.blkX s H scope (compEnvC scope cl C X.env) fp xe) elt te)
    (hs : ∀ x, foldedSetIterable iter X.env x = pure x := by intro _; rfl) :
    PE X (.ListComp elt [⟨tg, iter, ifs, 0⟩] scope pos) (tLc wi g tt te (own.map (·.2))) := by
  refine ⟨fun pins s σ H Q I h => ?_⟩
  rw [eval_ListComp]
  have hfree : ∀ y ∈ scope.names, y.2 = .free → ∃ c, X.env.cells.lookup y.1 = some c := fun y hy e => by
    rcases ok.free y hy e with k | k
    · exact I.ok.has _ (.inl k)
    · exact I.ok.has _ (.inr k)
  refine comprehension_at (use := none) rfl hs (closure_ok hfree) ok.kind (fun y hy e => by rw [ok.uniq y hy, e])
    (thn (hi.run pins s σ H _ I h) fun xv s1 hx => thn hx fun itv s2 h2 => ?_)
  obtain ⟨it, fp, tn, J, H2, e, I2, T, st2, f2, q⟩ := h2
  subst e
  refine wpAny_newObj_type (newEnv_comp ?_) (by show 0 ≤ sizeLine; decide)
  generalize hD : s2.heap.objs.size = D
  have hDn : H2 D = none := I2.hok.fresh (Nat.le_of_eq hD)
  obtain ⟨W, ⟨m0, w0⟩, turn⟩ := q D hDn
  -- the new list
  generalize hs3 : ({ s2 with heap := s2.heap.push { cls := .type "list", data := .seq ([] : List Value).toArray } } : Shared) = s3
  have I3 : Inv X pins σ (upd H2 D (.lst [])) s3 := by
    rw [← hs3]
    refine I2.laid (t' := s2.toks) (fun b o e => Heap.get?_push_of_some _ e) (Nat.le_of_eq hD) ⟨Nat.zero_le _, [], 0, .nil, ?_⟩
    rw [← hD]
    exact Heap.get?_push_size _ rfl
  have h3 : s3.heap = s2.heap.push { cls := .type "list", data := .seq ([] : List Value).toArray } := by rw [← hs3]
  have sz : ∀ b ∈ fp, b < s2.heap.objs.size := fun b hb => by
    obtain ⟨o, e, _⟩ := T.obj _ _ st2 b hb
    exact Heap.lt_size e
  have f3 : ∀ b ∈ fp, FpOk X pins (upd H2 D (.lst [])) b ∧ b < s3.heap.objs.size := fun b hb => by
    have hlt := sz b hb
    refine ⟨⟨?_, (f2 b hb).2⟩, by rw [h3, Heap.size_push]; exact Nat.lt_succ_of_lt hlt⟩
    rw [upd_ne (by rw [← hD]; exact Nat.ne_of_lt hlt)]
    exact (f2 b hb).1
  have st3 : tn 0 s3.heap := T.keep _ _ _ st2 fun b _ o e => by rw [h3]; exact Heap.get?_push_of_some _ e
  have I4 := block_start I3 ok hN f3
  have pg := hg s3 (upd H2 D (.lst [])) s3.heap.objs.size (cellsFrom (s3.heap.objs.size + 1) scope.names (cloFrom X.env.cells scope.names [])) fp
  have pt := ht s3 (upd H2 D (.lst [])) s3.heap.objs.size (cellsFrom (s3.heap.objs.size + 1) scope.names (cloFrom X.env.cells scope.names [])) fp
  have pe := he s3 (upd H2 D (.lst [])) s3.heap.objs.size (cellsFrom (s3.heap.objs.size + 1) scope.names (cloFrom X.env.cells scope.names [])) fp
  show codeAny _ _ (.compStart (.ListComp elt [⟨tg, iter, ifs, 0⟩] scope pos) 0 (.ref it) (.ref D) (compEnvC scope (cellsFrom (s3.heap.objs.size + 1) scope.names (cloFrom X.env.cells scope.names [])) s3.heap.objs.size X.env)) (compEnds (model X.prog X.w) X.A X.xe none (EP X pins σ Q) (.ref D) (compEnvC scope (cellsFrom (s3.heap.objs.size + 1) scope.names (cloFrom X.env.cells scope.names [])) s3.heap.objs.size X.env)) { s3 with heap := pushCells (s3.heap.push { cls := .type "dict", data := .dict #[] }) scope.names }
  have nfp : ∀ b ∈ fp, (upd H2 D (.lst [])) b = none := fun b hb => (f3 b hb).1.1
  generalize hce : compEnvC scope (cellsFrom (s3.heap.objs.size + 1) scope.names (cloFrom X.env.cells scope.names [])) s3.heap.objs.size X.env = ce at I4 pg pt pe ⊢
  have cL : ce.locals = s3.heap.objs.size := by subst hce; rfl
  have cF : ce.frame = X.env.frame := by subst hce; rfl
  generalize hH3 : upd H2 D (.lst []) = H3 at I3 I4 pg pt pe w0 nfp f3
  generalize hs4 : ({ s3 with heap := pushCells (s3.heap.push { cls := .type "dict", data := .dict #[] }) scope.names } : Shared) = s4 at I4 ⊢
  have st4 : tn 0 s4.heap := T.keep _ _ _ st3 fun b _ o e => by rw [← hs4]; exact pushCells_keeps _ _ _ _ (Heap.get?_push_of_some _ e)
  have stat : ∀ {σ' : St} {H' : Hp} {s' : Shared}, Inv (X.blk s3 H3 scope ce fp) [] σ' H' s' → (∀ b ∈ fp, H' b = none) → ∀ b ∈ fp, FpOk (X.blk s3 H3 scope ce fp) [] H' b := fun {σ' H' s'} I' hn b hb =>
    ⟨hn b hb, (I'.ok.exf b hb).1, I'.ok.exfs b hb, .inl hb, fun x c e => (I'.ok.exf b hb).2 x c e, fun p hp => absurd (show p ∈ ([] : List (Addr × Obj)) ++ [] from hp) (by simp)⟩
  have pe := pe (notedBy (model X.prog X.w) X.A ce fun e s' => CompFails (model X.prog X.w) X.A X.xe ce e s') fun pins' σ' H' s5 e s6 I' c => comp_out hst hfm tk I3 cL cF f3 I'.ofX c
  have loop : codeAny (model X.prog X.w) X.A (.compLoop (.ListComp elt [⟨tg, iter, ifs, 0⟩] scope pos) 0 (.ref it) (.ref D) ce) (compEnds (model X.prog X.w) X.A X.xe none (EP X pins σ Q) (.ref D) ce) s4 := by
    refine compLoop_any (fun n s' => ∃ i H', Inv (X.blk s3 H3 scope ce fp) [] (wipe σ (own.map (·.2))) H' s' ∧ tn i s'.heap ∧ (∀ b ∈ fp, H' b = none) ∧ W i n H') ?_ m0 ⟨0, H3, I4, st4, nfp, w0⟩
    rintro n s5 ⟨i, H5, I5, st5, n5, w5⟩
    rcases turn i n H5 w5 with ⟨stop, qq⟩ | ⟨go, Nx, hNx, step⟩
    · have td := T.done (X.blk s3 H3 scope ce fp) rfl rfl rfl hc i [] s5 _ H5 (fun _ _ => False) I5 (stat I5 n5) st5 stop
      refine thnF td fun r s6 ⟨hr, I6⟩ => ?_
      subst hr
      -- back in the def's context
      have I7 : Inv X pins σ H5 s6 := I3.call' (ch := fp) I6.os I6.base I6.hok I6.bare fun b hb => ⟨(f3 b hb).1.2.2.2.1, (f3 b hb).1.2.1, (f3 b hb).1.2.2.2.2.1, (f3 b hb).1.2.2.2.2.2⟩
      have nC : H5 s3.heap.objs.size = none := by
        have z : H5 ce.locals = none := I6.free
        rw [cL] at z
        exact z
      obtain ⟨m, hn, _⟩ := I6.loc
      have hn : s6.heap.Ns ce.locals m := hn
      refine ⟨m, hn, fun h'' sb => ?_⟩
      obtain ⟨f0, f1, f2, f3, f4, f5⟩ := I3.fpOk (Nat.le_refl _) nC
      rw [cL] at sb
      exact ⟨.ref D, H5, I7.turned (t' := s6.toks) (fun b o hb e => (sb.2 b hb).trans e) f0 f1 f3 f4 f5, rfl, qq⟩
    · have ti := T.item (X.blk s3 H3 scope ce fp) rfl rfl rfl hc i [] s5 _ H5 (fun _ _ => False) I5 (stat I5 n5) st5 go
      refine thnF ti fun r s6 ⟨u, hr, h6⟩ => ?_
      subst hr
      refine thnF h6 fun _ s7 ⟨x, H7, I7, r7, y7, st7, n7⟩ => ?_
      have I7' := I7.pinned (stat I7 n7) (T.obj _ _ st7)
      refine thnF (pg.run _ s7 _ H7 x u _ I7' r7 (step x H7 y7)) fun _ s8 ⟨σ8, H8, I8, hw8, q8⟩ => ?_
      refine thnF (pt.run _ s8 σ8 H8 _ I8 q8) fun b s9 ⟨H9, I9, q9⟩ => ?_
      -- the turn's end
      have fin : ∀ {s' : Shared} {H' : Hp}, Inv (X.blk s3 H3 scope ce fp) ([] ++ pinsAt fp s7.heap) σ8 H' s' → Nx H' → ∃ m, m < n ∧ ∃ i H', Inv (X.blk s3 H3 scope ce fp) [] (wipe σ (own.map (·.2))) H' s' ∧ tn i s'.heap ∧ (∀ b ∈ fp, H' b = none) ∧ W i m H' := fun {s' H'} I' nx => by
        obtain ⟨m', hm, w'⟩ := hNx H' nx
        have pin' : ∀ b ∈ fp, ∀ o, s7.heap.get? b = some o → s'.heap.get? b = some o ∧ H' b = none := fun b hb o e =>
          let z := I'.pin (b, o) (List.mem_append_right _ (List.mem_append_right _ (mem_pinsAt hb e)))
          ⟨z.1, z.2.1⟩
        have hl : (wipe σ (own.map (·.2))).length = σ8.length := by rw [← hw8, wipe_length]
        refine ⟨m', hm, i + 1, H', (I'.unpinned (pins := [])).weak hl (fun j v e => ?_), T.keep _ _ _ st7 fun b hb o e => (pin' b hb o e).1, fun b hb => ?_, w'⟩
        · rw [← hw8] at e
          exact (wipe_some e).1
        · obtain ⟨o, e, _⟩ := T.obj _ _ st7 b hb
          exact (pin' b hb o e).2
      cases b with
      | false =>
        simp only [Bool.false_eq_true, if_false] at q9 ⊢
        exact fin I9 q9
      | true =>
        simp only [if_true] at q9 ⊢
        refine wpAny_mono (pe.run _ s9 σ8 H9 _ I9.toX q9) (fun z s10 hz => ?_) fun _ _ z => z
        obtain ⟨yv, H10, I10, r10, acc, hD10, hz10, nx⟩ := hz
        exact app_ok (X := X.blk s3 H3 scope ce fp) I10.ofX hD10 hz10 r10 fun s11 I11 => fin I11 nx
  exact codeAny_compStart_list loop (T.self X.A 0 _ _ _ st4 loop)
end
end L2
namespace TK
open PySem PySem.Spec PyProof.Rows L2
def joinX (a : List D) : Except Str (List D) → Except Str (List D)
  | .ok r => .ok (a ++ r)
  | .error c => .error c
def lstX : Except Str (List D) → Except Str D
  | .ok r => .ok (.list r)
  | .error c => .error c
def conX (o : Option D) : Except Str (List D) → Except Str (List D)
  | .ok rest => .ok (match o with | some x => x :: rest | none => rest)
  | .error c => .error c
theorem compL_consX {f : D → M (Option D)} {d : D} {l : List D} {st st' : DSt} {r : Except Str (List D)} (h : compL f (d :: l) st = some (r, st')) :
    (∃ c, f d st = some (.error c, st') ∧ r = .error c) ∨ ∃ o st1 r1, f d st = some (.ok o, st1) ∧ compL f l st1 = some (r1, st') ∧ r = conX o r1 := by
  have h : (f d >>= fun o => compL f l >>= fun rest => (pure (match o with | some x => x :: rest | none => rest) : M (List D))) st = some (r, st') := h
  rcases bind_inv h with ⟨c, h1, rfl⟩ | ⟨o, st1, h1, h2⟩
  · exact .inl ⟨c, h1, rfl⟩
  · rcases bind_inv h2 with ⟨c, h3, rfl⟩ | ⟨rest, st2, h3, h4⟩
    · exact .inr ⟨o, st1, .error c, h1, h3, rfl⟩
    · obtain ⟨rfl, rfl⟩ := pure_inv h4
      exact .inr ⟨o, st1, .ok rest, h1, h3, rfl⟩
theorem ext_open {O : Addr → Bool} {ps D0 : Addr} {H1 Hn : Hp} {o o' : HO} (hD : H1 D0 = none) (oD : O D0 = false) (ex : Ext (addO O D0) ps (upd H1 D0 o) (upd Hn D0 o')) : Ext O ps H1 Hn := by
  refine ⟨fun b u z n e => ?_, fun b u z e => ?_⟩
  · have ne : b ≠ D0 := fun y => by rw [y, oD] at z; cases z
    have := ex.own b u (addO_of z) n (by rw [upd_ne ne]; exact e)
    rw [upd_ne ne] at this
    exact this
  · have ne : b ≠ D0 := ne_of_none e hD
    obtain ⟨u', e1, e2⟩ := ex.rd b u (by rw [addO_ne ne]; exact z) (by rw [upd_ne ne]; exact e)
    rw [upd_ne ne] at e1
    exact ⟨u', e1, e2⟩
theorem tlc_ofX {K : PySem.W.Frag} {mg : Str → Option Value} {E : XK} {Γ : List FnSem} {vs : List Nat} {tgt : Tg} {ik : IK} {src conds : List TK.E} {T : TK.E} (hsl : ∀ i ∈ slotsT tgt, i ∈ vs) : ∀ σ H Q, rdN K mg E Γ (.compX vs tgt ik src conds T) σ H Q → tLc (rdI K mg E Γ true ik src) (rdG K tgt) (rdC K mg E0 Γ conds) (rd K mg E Γ T) vs σ H Q := by
  intro σ H Q q
  obtain ⟨w, O0, H0, O, env, st, rr, st', R, q, _, oo⟩ := q
  let f : D → M (Option D) := fun d => liftO (asgT tgt d (wipeE env vs)) >>= fun env1 => noX (evc Γ env1 conds) >>= fun b => if b then ev Γ env1 T >>= fun x => pure (some x) else pure none
  have q : ((evsB Γ env src >>= fun ds => liftO (walkL ik ds)) >>= fun items => compL f items >>= fun out => (pure (.list out) : M D)) st = some (rr, st') := by
    rw [bind_assoc']
    exact q
  rcases bind_inv q with ⟨c, h1, rfl⟩ | ⟨items, st1, h1, h2⟩
  · exact ⟨w, O0, H0, O, env, st, .error c, _, R, h1, oo⟩
  · refine ⟨w, O0, H0, O, env, st, .ok items, st1, R, h1, fun H1 p1 J hJ hlen => ?_⟩
    obtain ⟨objs, Y, hat, wk, yok, kinds⟩ := hJ
    have R1 := R.post p1
    have o1 := oo.later p1
    have hro : ∃ ro, compL f items st1 = some (ro, st') ∧ rr = lstX ro := by
      rcases bind_inv h2 with ⟨c, h3, rfl⟩ | ⟨out, st2, h3, h4⟩
      · exact ⟨.error c, h3, rfl⟩
      · obtain ⟨rfl, rfl⟩ := pure_inv h4
        exact ⟨.ok out, h3, rfl⟩
    obtain ⟨ro, h5, hrr⟩ := hro
    intro D0 hD
    have neD : ∀ p ∈ objs, p.1 ≠ D0 := fun p hp e => by
      have := hat p hp
      rw [e, hD] at this; cases this
    have RD := (R1.wipe vs).hide (o := .lst []) hD
    have leD : Le (hid H1 O) (hid (upd H1 D0 (.lst [])) (addO O D0)) := fun a u e => by
      obtain ⟨e1, e2⟩ := hid_some e
      have ne : a ≠ D0 := ne_of_none e2 hD
      exact ⟨u, by rw [hid_of (by rw [addO_ne ne]; exact e1), upd_ne ne]; exact e2, .refl u⟩
    have oD : O D0 = false := R1.free hD
    have o0D : O0 D0 = false := by
      cases z : O0 D0 with
      | false => rfl
      | true => rw [R1.sub D0 z] at oD; cases oD
    refine lc_it wk (fun i Hi => ∃ (sti : DSt) (acc : List V) (outi : List D) (rest : Except Str (List D)), Rel K w O0 H0 (addO O D0) (L2.wipe σ vs) Hi (wipeE env vs) sti ∧ Hi D0 = some (.lst acc) ∧ RpAll w (hid Hi (addO O D0)) acc outi ∧ outi.length ≤ i ∧
        compL f (items.drop i) sti = some (rest, st') ∧ ro = joinX outi rest ∧ Ext (addO O D0) w.ps (upd H1 D0 (.lst [])) (upd Hi D0 (.lst [])) ∧ Le (hid H1 O) (hid Hi (addO O D0))) ?_ ?_ ?_ ?_
    · exact ⟨_, [], [], ro, RD, upd_same, .nil, Nat.le_refl _, h5, by cases ro <;> rfl, by rw [upd_upd]; exact Ext.refl, leD⟩
    · rintro i Hi _ ⟨sti, acc, outi, rest, Ri, hDi, _, _, _, _, ex, _⟩
      refine ⟨fun p hp => ?_, hid_le.sqL Ri.scr⟩
      have h6 := hat p hp
      have ne := neD p hp
      have h7 : (upd H1 D0 (.lst [])) p.1 = some p.2 := by rw [upd_ne ne]; exact h6
      have h8 : ∃ o', (upd Hi D0 (.lst [])) p.1 = some o' ∧ Kp p.2 o' := by
        cases z : addO O D0 p.1 with
        | false => exact ex.rd p.1 p.2 z h7
        | true => exact ⟨p.2, ex.own p.1 p.2 z (kinds p hp).1 h7, .refl _⟩
      obtain ⟨o', h9, kk⟩ := h8
      rw [upd_ne ne] at h9
      rcases (kinds p hp).2.2 with ⟨xs, e⟩ | ⟨xs, e⟩ | ⟨od, u, e, _⟩
      · rw [e] at kk ⊢
        rw [h9, kk.lst]
      · rw [e] at kk ⊢
        rw [h9, kk.tup]
      · rw [e] at kk ⊢
        rw [h9, kk.frz]
    · rintro i x Hi Hj hin ⟨sti, acc, outi, rest, Ri, hDi, rpi, len, hcomp, hout, ex, le⟩ y
      obtain ⟨alloc, d, hd, rp⟩ := yok i Hi x Hj _ hin y le Ri.alc
      have hdrop : items.drop i = d :: items.drop (i + 1) := List.drop_eq_getElem?_toList_append.trans (by rw [hd]; rfl)
      rw [hdrop] at hcomp
      have Pj : Post (addO O D0) w.ps Hi sti Hj := Ri.postN alloc
      have Rj := Ri.post Pj
      have own0 : ∀ (j : Nat) (e : D), (wipeE env vs)[j]? = some (Slot.own e) → (L2.wipe σ vs)[j]? ≠ some (some (.ref D0)) := fun j e hj z => by
        obtain ⟨p, e1, e2, _⟩ := (R1.wipe vs).own j e hj
        rw [z] at e1
        cases e1
        rw [oD] at e2
        cases e2
      -- an exception of the element leaves the block
      have lets : ∀ {c : Str} {H3 : Hp} {stb : DSt}, ro = .error c → Post (addO O D0) w.ps Hi stb H3 → ∀ A H', mg c = some (.ref A) → Post (addO O D0) w.ps H3 st' H' → E (.ref A) none H' := fun {c H3 stb} hc p3 A H' hm p' => by
        rw [hrr, hc] at o1
        have x1 : Ext O w.ps H1 Hi := ext_open hD oD ex
        have x2 : Ext (addO O D0) w.ps Hi H' := p3.1.trans p'.1
        have x3 : Ext (addO O D0) w.ps (upd H1 D0 (.lst [])) (upd H' D0 (.lst [])) := ex.trans (x2.upd2 D0 _)
        exact o1 A H' hm ⟨ext_open hD oD x3, p'.2⟩
      have hx : ∃ env1 b sta, asgT tgt d (wipeE env vs) = some env1 ∧ evc Γ env1 conds sti = some (.ok b, sta) ∧
          ((b = true ∧ ∃ c, ev Γ env1 T sta = some (.error c, st') ∧ ro = .error c) ∨ ∃ o st3 r1, (if b then ev Γ env1 T >>= fun x => pure (some x) else (pure none : M (Option D))) sta = some (.ok o, st3) ∧ compL f (items.drop (i + 1)) st3 = some (r1, st') ∧ rest = conX o r1) := by
        rcases compL_consX hcomp with ⟨c, g1, g2⟩ | ⟨o, st3, r1, g1, g2, g3⟩
        · have g1 : (liftO (asgT tgt d (wipeE env vs)) >>= fun env1 => noX (evc Γ env1 conds) >>= fun b => if b then ev Γ env1 T >>= fun x => pure (some x) else pure none) sti = some (.error c, st') := g1
          rcases bind_inv g1 with ⟨c1, z1, z⟩ | ⟨env1, sta, g4, g5⟩
          · obtain ⟨_, _, z2, _⟩ := liftO_inv z1
            cases z2
          obtain ⟨_, hasg, z, rfl⟩ := liftO_inv g4
          cases z
          rcases bind_inv g5 with ⟨c1, z1, z⟩ | ⟨b, stb, g6, g7⟩
          · obtain ⟨_, z2, _⟩ := noX_inv z1
            cases z2
          obtain ⟨_, z, g6⟩ := noX_inv g6
          cases z
          refine ⟨_, b, stb, hasg, g6, ?_⟩
          cases b with
          | false =>
            obtain ⟨z, _⟩ := pure_inv (a := (none : Option D)) g7
            cases z
          | true =>
            have g7 : (ev Γ env1 T >>= fun x => (pure (some x) : M (Option D))) stb = some (.error c, st') := g7
            rcases bind_inv g7 with ⟨c1, z1, z⟩ | ⟨xd, stc, g8, g9⟩
            · cases z
              exact .inl ⟨rfl, c, z1, by rw [hout, g2]; rfl⟩
            · obtain ⟨z, _⟩ := pure_inv g9
              cases z
        · have g1 : (liftO (asgT tgt d (wipeE env vs)) >>= fun env1 => noX (evc Γ env1 conds) >>= fun b => if b then ev Γ env1 T >>= fun x => pure (some x) else pure none) sti = some (.ok o, st3) := g1
          rcases bind_inv g1 with ⟨c, _, z⟩ | ⟨env1, sta, g4, g5⟩
          · cases z
          obtain ⟨_, hasg, z, rfl⟩ := liftO_inv g4
          cases z
          rcases bind_inv g5 with ⟨c, _, z⟩ | ⟨b, stb, g6, g7⟩
          · cases z
          obtain ⟨_, z, g6⟩ := noX_inv g6
          cases z
          exact ⟨_, b, stb, hasg, g6, .inr ⟨o, st3, r1, g7, g2, g3⟩⟩
      obtain ⟨env1, b, stb, hasg, g6, hx⟩ := hx
      refine ⟨w, O0, H0, _, wipeE env vs, _, d, env1, Rj, rp, hasg, fun σ2 R2 but => ⟨?_, ?_⟩⟩
      · rw [wipe_but but hsl, wipe_wipe]
      · refine ⟨w, O0, H0, _, env1, _, .ok b, stb, R2, g6, fun H3 p3 => ?_⟩
        have R3 := R2.post p3
        have P3 := Pj.trans p3
        rcases hx with ⟨rfl, c, g7, hro⟩ | ⟨o, st3, r1, g7, g2, g3⟩
        · dsimp only
          rw [if_pos rfl]
          exact ⟨w, O0, H0, _, env1, stb, .error c, _, R3, g7, lets hro P3⟩
        · have nx : ∀ {stn : DSt} {H4 : Hp} {acc' : List V} {out' : List D}, Post (addO O D0) w.ps Hi stn H4 → RpAll w (hid H4 (addO O D0)) acc' out' → out'.length ≤ i + 1 → compL f (items.drop (i + 1)) stn = some (r1, st') → ro = joinX out' r1 →
              ∃ (sti : DSt) (acc : List V) (outi : List D) (rest : Except Str (List D)), Rel K w O0 H0 (addO O D0) (L2.wipe σ vs) (upd H4 D0 (.lst acc')) (wipeE env vs) sti ∧ (upd H4 D0 (.lst acc')) D0 = some (.lst acc) ∧ RpAll w (hid (upd H4 D0 (.lst acc')) (addO O D0)) acc outi ∧ outi.length ≤ i + 1 ∧
                compL f (items.drop (i + 1)) sti = some (rest, st') ∧ ro = joinX outi rest ∧ Ext (addO O D0) w.ps (upd H1 D0 (.lst [])) (upd (upd H4 D0 (.lst acc')) D0 (.lst [])) ∧ Le (hid H1 O) (hid (upd H4 D0 (.lst acc')) (addO O D0)) := fun {stn H4 acc' out'} P4 r4 l4 c4 e4 => by
            refine ⟨stn, acc', out', r1, (Ri.post P4).write addO_self o0D own0, upd_same, r4.mono (le_write addO_self), l4, c4, e4, ?_, le.trans (P4.1.le.trans (le_write addO_self))⟩
            rw [upd_upd]
            exact ex.trans (P4.1.upd2 D0 _)
          cases b with
          | false =>
            dsimp only
            rw [if_neg Bool.false_ne_true]
            obtain ⟨z, rfl⟩ := pure_inv (a := (none : Option D)) g7
            cases z
            have hD3 : H3 D0 = some (.lst acc) := P3.1.own D0 _ addO_self (R1.ps_ne hD) hDi
            have := nx P3 (rpi.mono P3.1.le) (Nat.le_succ_of_le len) g2 (by rw [hout, g3]; cases r1 <;> rfl)
            rw [upd_id hD3] at this
            exact this
          | true =>
            dsimp only
            rw [if_pos rfl]
            have g7 : (ev Γ env1 T >>= fun x => (pure (some x) : M (Option D))) stb = some (.ok o, st3) := g7
            rcases bind_inv g7 with ⟨c, _, z⟩ | ⟨xd, stc, g8, g9⟩
            · cases z
            obtain ⟨z, rfl⟩ := pure_inv g9
            cases z
            refine ⟨w, O0, H0, _, env1, stb, .ok xd, _, R3, g8, fun H4 p4 v rv => ?_⟩
            have P4 := P3.trans p4
            refine ⟨acc, P4.1.own D0 _ addO_self (R1.ps_ne hD) hDi, ?_, ?_⟩
            · rw [rpi.length]
              omega
            · refine nx P4 ((rpi.mono P4.1.le).append (.cons rv .nil)) ?_ g2 ?_
              · rw [List.length_append, List.length_singleton]; omega
              · rw [hout, g3]
                cases r1 with
                | ok r => simp [conX, joinX, List.append_assoc]
                | error c => rfl
    · rintro Hn ⟨sti, acc, outi, rest, Ri, hDi, rpi, len, hcomp, hout, ex, le⟩
      rw [List.drop_length] at hcomp
      obtain ⟨rfl, rfl⟩ := pure_inv (a := ([] : List D)) hcomp
      have : ro = .ok outi := by rw [hout]; simp [joinX]
      rw [this] at hrr
      rw [hrr] at o1
      exact o1 Hn ⟨ext_open hD oD ex, Ri.sts⟩ D0 (R.fresh p1 hD) (.lst hDi rpi)
section
variable {X : Cx} {E : XK} {Γ : List FnSem} {k : Nat} {L : List Str}
theorem compX_list {Γ : List FnSem} {own : List Nat} {tgt : Tg} {ik : IK} {src conds : List TK.E} {T : TK.E} : ∀ env st r st', ev Γ env (.compX own tgt ik src conds T) st = some (r, st') → ∀ d, r = .ok d → ownB true d = true := by
  intro env st r st' h d hd
  subst hd
  rcases bind_inv h with ⟨c, _, z⟩ | ⟨a, s1, _, h⟩
  · cases z
  rcases bind_inv h with ⟨c, _, z⟩ | ⟨a, s1, _, h⟩
  · cases z
  rcases bind_inv h with ⟨c, _, z⟩ | ⟨a, s1, _, h⟩
  · cases z
  obtain ⟨z, _⟩ := pure_inv h
  cases z
  rfl
theorem Cxt.blkX (c : Cxt X k E) {s : Shared} {H : Hp} {scope : Scope} {env : PySem.Env} {fp : List Addr} {xe : Value → Shared → Prop} (h : Passes (L2.CX X.prog X.w) (X.blkX s H scope env fp xe) E) : Cxt (X.blkX s H scope env fp xe) k E := ⟨c.calm, c.room, c.nd, c.blt, h⟩
theorem f_compX {elt tg iter : Expr} {ifs : List Expr} {scope : Scope} {pos : Pos} {tgt : Tg} {ik : IK} {src conds : List TK.E} {T : TK.E} (own : List (Str × Nat)) (c : Cxt X k E) (o : OwnX X E L) (ok : blkC X.N X.env.scope scope own = true) (hsl : slotsIn tgt (own.map (·.2)) = true) (hs : ∀ x, foldedSetIterable iter X.env x = pure x) (hi : PI X tg iter (rdI X.K X.mg E Γ true ik src))
    (hg : ∀ (s : Shared) (H : Hp) (C : Addr) (cl : List (Str × Addr)) (fp : List Addr), PG (X.blk s H scope (compEnvC scope cl C X.env) fp) tg (rdG X.K tgt))
    (ht : ∀ (s : Shared) (H : Hp) (C : Addr) (cl : List (Str × Addr)) (fp : List Addr), PTs (X.blk s H scope (compEnvC scope cl C X.env) fp) ifs (rdC X.K X.mg E0 Γ conds))
    (he : ∀ (s : Shared) (H : Hp) (C : Addr) (cl : List (Str × Addr)) (fp : List Addr) (xe : Value → Shared → Prop), Cxt (X.blkX s H scope (compEnvC scope cl C X.env) fp xe) k E → PE (X.blkX s H scope (compEnvC scope cl C X.env) fp xe) elt (rd X.K X.mg E Γ T)) :
    PE X (.ListComp elt [⟨tg, iter, ifs, 0⟩] scope pos) (rdF X.K X.mg E Γ true (.compX (own.map (·.2)) tgt ik src conds T)) :=
  (pe_lcX o.stk o.frm o.takes c.calm c.nd hi (blkOk_by ok) hg ht (fun s H C cl fp xe hp => he s H C cl fp xe (c.blkX hp)) hs).weak (tlc_ofX (slots_of hsl))
theorem e_compX {elt tg iter : Expr} {ifs : List Expr} {scope : Scope} {pos : Pos} {tgt : Tg} {ik : IK} {src conds : List TK.E} {T : TK.E} (own : List (Str × Nat)) (c : Cxt X k E) (o : OwnX X E L) (ok : blkC X.N X.env.scope scope own = true) (hsl : slotsIn tgt (own.map (·.2)) = true) (hs : ∀ x, foldedSetIterable iter X.env x = pure x) (hi : PI X tg iter (rdI X.K X.mg E Γ true ik src))
    (hg : ∀ (s : Shared) (H : Hp) (C : Addr) (cl : List (Str × Addr)) (fp : List Addr), PG (X.blk s H scope (compEnvC scope cl C X.env) fp) tg (rdG X.K tgt))
    (ht : ∀ (s : Shared) (H : Hp) (C : Addr) (cl : List (Str × Addr)) (fp : List Addr), PTs (X.blk s H scope (compEnvC scope cl C X.env) fp) ifs (rdC X.K X.mg E0 Γ conds))
    (he : ∀ (s : Shared) (H : Hp) (C : Addr) (cl : List (Str × Addr)) (fp : List Addr) (xe : Value → Shared → Prop), Cxt (X.blkX s H scope (compEnvC scope cl C X.env) fp xe) k E → PE (X.blkX s H scope (compEnvC scope cl C X.env) fp xe) elt (rd X.K X.mg E Γ T)) :
    PE X (.ListComp elt [⟨tg, iter, ifs, 0⟩] scope pos) (rd X.K X.mg E Γ (.compX (own.map (·.2)) tgt ik src conds T)) :=
  s_N2V compX_list (f_compX own c o ok hsl hs hi hg ht he)
end
end TK
namespace TK
open PySem PySem.Spec PyProof.Rows L2
end TK
namespace TK
open PySem PySem.Spec PyProof.Rows L2
theorem _root_.L2.PSet.or {X : Cx} {t t' : L2.TSet} (h : PSet X t) (h' : PSet X t') : PSet X (fun o i v H Q => t o i v H Q ∨ t' o i v H Q) :=
  fun pins s σ H o i v ov iv u Q I a b c q => q.elim (h pins s σ H o i v ov iv u Q I a b c) (h' pins s σ H o i v ov iv u Q I a b c)
section
variable {w : Dr} {G : Hp}
theorem RpKV.any (k : Key) : ∀ {kvs : List (Key × V)} {l : List (D × D)}, RpKV w G kvs l → (l.any fun p => PyData.eqv p.1 (keyD k)) = kvs.any fun kv => decide (kv.1 = k)
  | _, _, .nil => rfl
  | _, _, .cons _ _ hr => by rw [List.any_cons, List.any_cons, RpKV.any k hr]; simp only [eqv_key]
theorem RpKV.upds {k : Key} {v : V} {d : D} (hv : Rp w G v d) : ∀ {kvs : List (Key × V)} {l : List (D × D)}, RpKV w G kvs l → RpKV w G (kvs.map fun kv => if kv.1 = k then (kv.1, v) else kv) (l.map fun p => if PyData.eqv p.1 (keyD k) = true then (p.1, d) else p)
  | _, _, .nil => .nil
  | _, _, .cons (k := k') hs hv' hr => by
    rw [List.map_cons, List.map_cons]
    simp only [eqv_key, decide_eq_true_eq]
    by_cases e : k' = k
    · rw [if_pos e, if_pos e]
      have := RpKV.upds (k := k) hv hr
      exact .cons hs hv this
    · rw [if_neg e, if_neg e]
      have := RpKV.upds (k := k) hv hr
      exact .cons hs hv' this
theorem RpKV.snoc {k : Key} {v : V} {d : D} (hk : keyS k = true) (hv : Rp w G v d) : ∀ {kvs : List (Key × V)} {l : List (D × D)}, RpKV w G kvs l → RpKV w G (kvs ++ [(k, v)]) (l ++ [(keyD k, d)])
  | _, _, .nil => .cons hk hv .nil
  | _, _, .cons hs hv' hr => .cons hs hv' (RpKV.snoc hk hv hr)
theorem RpKV.put {k : Key} {v : V} {d : D} (hk : keyS k = true) (hv : Rp w G v d) {kvs : List (Key × V)} {l : List (D × D)} (h : RpKV w G kvs l) : RpKV w G (putK kvs k v) (putD l (keyD k) d) := by
  unfold putK putD
  rw [h.any k]
  split
  · exact h.upds hv
  · exact h.snoc hk hv
theorem RpKT.any (k : List Key) : ∀ {kvs : List (List Key × V)} {l : List (D × D)}, RpKT w G kvs l → (l.any fun p => PyData.eqv p.1 (.tuple (k.map keyD))) = kvs.any fun kv => decide (kv.1 = k)
  | _, _, .nil => rfl
  | _, _, .cons _ _ hr => by rw [List.any_cons, List.any_cons, RpKT.any k hr]; simp only [eqv_keyT]
theorem RpKT.upds {k : List Key} {v : V} {d : D} (hv : Rp w G v d) : ∀ {kvs : List (List Key × V)} {l : List (D × D)}, RpKT w G kvs l → RpKT w G (kvs.map fun kv => if kv.1 = k then (kv.1, v) else kv) (l.map fun p => if PyData.eqv p.1 (.tuple (k.map keyD)) = true then (p.1, d) else p)
  | _, _, .nil => .nil
  | _, _, .cons (k := k') hs hv' hr => by
    rw [List.map_cons, List.map_cons]
    simp only [eqv_keyT, decide_eq_true_eq]
    by_cases e : k' = k
    · rw [if_pos e, if_pos e]
      have := RpKT.upds (k := k) hv hr
      exact .cons hs hv this
    · rw [if_neg e, if_neg e]
      have := RpKT.upds (k := k) hv hr
      exact .cons hs hv' this
theorem RpKT.snoc {k : List Key} {v : V} {d : D} (hk : k.all keyS = true) (hv : Rp w G v d) : ∀ {kvs : List (List Key × V)} {l : List (D × D)}, RpKT w G kvs l → RpKT w G (kvs ++ [(k, v)]) (l ++ [(.tuple (k.map keyD), d)])
  | _, _, .nil => .cons hk hv .nil
  | _, _, .cons hs hv' hr => .cons hs hv' (RpKT.snoc hk hv hr)
theorem RpKT.put {k : List Key} {v : V} {d : D} (hk : k.all keyS = true) (hv : Rp w G v d) {kvs : List (List Key × V)} {l : List (D × D)} (h : RpKT w G kvs l) : RpKT w G (putK kvs k v) (putD l (.tuple (k.map keyD)) d) := by
  unfold putK putD
  rw [h.any k]
  split
  · exact h.upds hv
  · exact h.snoc hk hv
theorem RpKT.length : ∀ {kvs : List (List Key × V)} {l : List (D × D)}, RpKT w G kvs l → kvs.length = l.length
  | _, _, .nil => rfl
  | _, _, .cons _ _ h => by rw [List.length_cons, List.length_cons, RpKT.length h]
end
end TK
namespace TK
open PySem PySem.Spec PyProof.Rows L2
end TK
namespace TK
open PySem PySem.Spec PyProof.Rows L2
section
variable {X : Cx} {E : XK} {Γ : List FnSem} {k : Nat} {m : Bool} {pos p apos cpos : Pos}
theorem idxOf_spec {x : D} : ∀ {l : List D} {j : Nat}, idxOf x l = some j → (∃ z, l[j]? = some z ∧ PyData.eqv z x = true) ∧ ∀ (i : Nat) (z : D), i < j → l[i]? = some z → PyData.eqv z x = false
  | [], _, h => by cases h
  | y :: ys, j, h => by
    unfold idxOf at h
    cases hy : PyData.eqv y x with
    | true =>
      rw [hy, if_pos rfl] at h
      cases h
      exact ⟨⟨y, rfl, hy⟩, fun i z hi => absurd hi (Nat.not_lt_zero _)⟩
    | false =>
      rw [hy, if_neg Bool.false_ne_true, Option.map_eq_some_iff] at h
      obtain ⟨j', h1, rfl⟩ := h
      obtain ⟨⟨z, a1, a2⟩, a3⟩ := idxOf_spec h1
      refine ⟨⟨z, a1, a2⟩, fun i z' hi hz => ?_⟩
      cases i with
      | zero => cases hz; exact hy
      | succ i => exact a3 i z' (by omega) hz
theorem e_index {a b : Expr} {A B : TK.E} (c : Cxt X k E) (hs : notStar b = true) (hbase : attributeBase a "index" X.env (eval a X.env) = eval a X.env) (hline : (apos.endLine == cpos.line) = true) (ha : PE X a (rdB X.K X.mg E Γ A)) (hb : PE X b (rdB X.K X.mg E Γ B)) :
    PE X (.Call (.Attribute a "index" apos) [b] [] cpos) (rd X.K X.mg E Γ (.idx A B)) := by
  refine (pe_bm PySem.F.plainAttrs_list PySem.F.slot_list_index rfl (mt_indexD (room65 c.room)) ha (s_arg1 hb hs) hbase (few_ok hs) hline (star_ok hs) rfl).weak fun σ H Q q => ?_
  obtain ⟨w, O0, H0, O, env, st, rr, st', R, q, oo⟩ := q
  refine rdB_bind R (f := fun x => if isLst x then (orB env B (ev Γ env B) >>= fun y => liftO (app2 .index x y)) else fail) q oo fun d st1 v H1 R1 p1 q1 h1 o1 => ?_
  split at h1
  · rename_i hd
    cases d with
    | list l =>
      obtain ⟨pa, xs, rfl, g1, r1⟩ := q1.list
      refine ⟨.inl ⟨rfl, _, SqL.of g1⟩, ?_⟩
      refine rdB_bind R1 h1 o1 fun e st2 u H2 R2 p2 q2 h2 o2 => ?_
      obtain ⟨x, h3, rfl, rfl⟩ := liftO_inv h2
      simp only [app2] at h3
      split at h3
      · rename_i hc
        obtain ⟨c1, c2, _⟩ := all60 hc
        rw [Option.map_eq_some_iff] at h3
        obtain ⟨j, h4, rfl⟩ := h3
        obtain ⟨⟨z, a1, a2⟩, a3⟩ := idxOf_spec h4
        have q1' := q1.ext p2.1
        exact ⟨pa, u, e, l, j, z, rfl, rfl, q1'.dp c2, q2.dp c1, shaped_of (q1'.lay c2) c2 (by decide), shaped_of (q2.lay c1) c1 (by decide), a1, a2, a3, o2 H2 R2.here _ (.int _)⟩
      · cases h3
    | _ => cases hd
  · cases h1
end
end TK
namespace TK
open PySem PySem.Spec PyProof.Rows L2
abbrev IsZ (h : Heap) (z TI TO : Addr) (f0 : Value) (f1 : Bool) : Prop :=
  h.get? z = some { cls := .type "zip", dict := none, data := .fields #[f0, .bool f1, .bool false, .ref TI, .ref TO], slots := #[] }
def F0 (f0 : Value) : Prop := f0 = .none ∨ ∃ T : Addr, f0 = rawInt T
section
variable {prog : Program} {w : World} {A : Around} {E : Value → Shared → Prop} {s : Shared} {z TI TO i1 i2 : Addr} {fp1 fp2 : List Addr} {n1 n2 i : Nat} {P1 P2 : Nat → Value → Prop} {St1 St2 : Nat → Heap → Prop} {a1 a2 f0 : Value} {f1 : Bool}
/-- the zip and its cells, at turn i -/
structure ZAt (z TI TO i1 i2 : Addr) (St1 St2 : Nat → Heap → Prop) (i : Nat) (h : Heap) : Prop where
  zip : ∃ f0 f1, IsZ h z TI TO f0 f1 ∧ F0 f0
  ti : IsTupOf2 h TI (.ref i1) (.ref i2)
  to : ∃ x y, IsTupOf2 h TO x y
  st1 : St1 i h
  st2 : St2 i h
theorem ZAt.keep {St1 St2 : Nat → Heap → Prop} {h h' : Heap} (D1 : Draws prog w A i1 fp1 n1 P1 St1) (D2 : Draws prog w A i2 fp2 n2 P2 St2) (x : ZAt z TI TO i1 i2 St1 St2 i h) (k : ∀ b ∈ z :: TI :: TO :: (fp1 ++ fp2), ∀ o, h.get? b = some o → h'.get? b = some o) : ZAt z TI TO i1 i2 St1 St2 i h' := by
  obtain ⟨⟨f0, f1, hz, h0⟩, hTI, ⟨a1, a2, hTO⟩, st1, st2⟩ := x
  exact ⟨⟨f0, f1, k z (by simp) _ hz, h0⟩, k TI (by simp) _ hTI, ⟨a1, a2, k TO (by simp) _ hTO⟩, D1.frame _ _ _ st1 fun b hb o e => k b (by simp [hb]) o e, D2.frame _ _ _ st2 fun b hb o e => k b (by simp [hb]) o e⟩
end
end TK
namespace TK
open PySem PySem.Spec PyProof.Rows L2
end TK
namespace TK
open PySem PySem.Spec PyProof.Rows L2
section
variable {X : Cx} {E : XK} {Γ : List FnSem} {k : Nat} {m : Bool} {tg : Expr}
theorem RpKV.at {w : Dr} {G : Hp} : ∀ {kvs : List (Key × V)} {l : List (D × D)}, RpKV w G kvs l → ∀ {i : Nat} {k : Key} {v : V}, kvs[i]? = some (k, v) → keyS k = true ∧ ∃ d, l[i]? = some (keyD k, d)
  | _, _, .nil, i, k, v, h => by simp at h
  | _, _, .cons a b c, 0, k, v, h => by cases h; exact ⟨a, _, rfl⟩
  | _, _, .cons a b c, i + 1, k, v, h => c.at (i := i) h
theorem RpKV.len {w : Dr} {G : Hp} : ∀ {kvs : List (Key × V)} {l : List (D × D)}, RpKV w G kvs l → kvs.length = l.length
  | _, _, .nil => rfl
  | _, _, .cons a b c => by rw [List.length_cons, List.length_cons, c.len]
end
end TK
namespace TK
open PySem PySem.Spec PyProof.Rows L2
end TK
namespace TK
open PySem PySem.Spec PyProof.Rows L2
end TK
namespace TK
open PySem PySem.Spec PyProof.Rows L2
section
variable {prog : Program} {w : World}
theorem IsSq.at {t : Bool} {h h' : Heap} {a : Addr} {items : Array Value} (x : IsSq t h a items) (k : ∀ o, h.get? a = some o → h'.get? a = some o) : IsSq t h' a items := by
  cases t
  · obtain ⟨o, e, r⟩ := x; exact ⟨o, k o e, r⟩
  · obtain ⟨o, e, r⟩ := x; exact ⟨o, k o e, r⟩
theorem IsSq.there {t : Bool} {h : Heap} {a : Addr} {items : Array Value} (x : IsSq t h a items) : ∃ o, h.get? a = some o := by
  cases t
  · obtain ⟨o, e, r⟩ := x; exact ⟨o, e⟩
  · obtain ⟨o, e, r⟩ := x; exact ⟨o, e⟩
end
end TK
namespace TK
open PySem PySem.Spec PyProof.Rows L2
section
variable {X : Cx} {E : XK} {Γ : List FnSem} {k : Nat} {m : Bool} {tg : Expr}
theorem RpKT.at {w : Dr} {G : Hp} : ∀ {kvs : List (List Key × V)} {l : List (D × D)}, RpKT w G kvs l → ∀ {i : Nat} {k : List Key} {v : V}, kvs[i]? = some (k, v) → k.all keyS = true ∧ ∃ d, l[i]? = some (.tuple (k.map keyD), d)
  | _, _, .nil, i, k, v, h => by simp at h
  | _, _, .cons a b c, 0, k, v, h => by cases h; exact ⟨a, _, rfl⟩
  | _, _, .cons a b c, i + 1, k, v, h => c.at (i := i) h
theorem RpKT.len {w : Dr} {G : Hp} : ∀ {kvs : List (List Key × V)} {l : List (D × D)}, RpKT w G kvs l → kvs.length = l.length
  | _, _, .nil => rfl
  | _, _, .cons a b c => by rw [List.length_cons, List.length_cons, c.len]
end
end TK
namespace TK
open PySem PySem.Spec PyProof.Rows L2
end TK
namespace TK
open PySem PySem.Spec PyProof.Rows L2
end TK
namespace TK
open PySem PySem.Spec PyProof.Rows L2
section
variable {X : Cx} {E : XK} {Γ : List FnSem} {k : Nat}
theorem strOk_join {a : Str} (ha : PyData.strOk a = true) : ∀ {l : List Str}, (∀ x ∈ l, PyData.strOk x = true) → PyData.strOk (Str.join a l) = true
  | [], _ => by unfold Str.join; decide +kernel
  | [x], h => h x (by simp)
  | x :: y :: r, h => by
    show PyData.strOk (x ++ a ++ Str.join a (y :: r)) = true
    exact strOk_append (strOk_append (h x (by simp)) ha) (strOk_join ha fun z hz => h z (List.mem_cons_of_mem _ hz))
theorem e_join {s : Str} {j : Nat} {p0 apos cpos : Pos} {b : Expr} {B : TK.E} (c : Cxt X k E) (hok : PyData.strOk s = true) (hs : notStar b = true) (hbase : attributeBase (.Constant (.str s) j p0) "join" X.env (eval (.Constant (.str s) j p0) X.env) = eval (.Constant (.str s) j p0) X.env) (hline : (apos.endLine == cpos.line) = true) (hb : PE X b (rdB X.K X.mg E Γ B)) :
    PE X (.Call (.Attribute (.Constant (.str s) j p0) "join" apos) [b] [] cpos) (rd X.K X.mg E Γ (.op2 .join (.con (.str s)) B)) := by
  refine (pe_join (pe_str (x := s)) hb (star_ok hs) hbase hline).weak fun σ H Q q => ?_
  obtain ⟨w, O0, H0, O, env, st, rr, st', R, q, oo⟩ := q
  have q : (orB env B (ev Γ env B) >>= fun y => liftO (app2 .join (.str s) y)) st = some (rr, st') := q
  refine ⟨⟨s, rfl⟩, ?_⟩
  refine rdB_bind R q oo fun d st1 v H1 R1 p1 q1 h1 o1 => ?_
  obtain ⟨x, h3, rfl, rfl⟩ := liftO_inv h1
  cases d with
  | list l =>
    simp only [app2, Option.bind_eq_some_iff] at h3
    obtain ⟨ys, h4, h5⟩ := h3
    split at h5
    · rename_i hz
      cases h5
      obtain ⟨pa, xs, rfl, g1, r1⟩ := q1.list
      obtain ⟨rfl, hys⟩ := strs_V r1 h4
      refine ⟨s, pa, ys, rfl, rfl, .inl (SqL.of g1), by rw [lim_eq] at hz; exact hz, o1 H1 R1.here _ (.str _ ?_)⟩
      show PyData.strOk (Builtin.Str.glued s ys) = true
      rw [StrLaws.glued_eq_join]
      exact strOk_join hok hys
    · cases h5
  | _ => cases h3
end
end TK
namespace TK
open PySem PySem.Spec PyProof.Rows L2
def spI (K : PySem.W.Frag) (mg : Str → Option Value) (F : FnSem) : Sp := fun vs H Q E => ∃ (x : Addr) (vs' : List V) (w : Dr) (O : Addr → Bool) (st : DSt) (ds : List D) (c : Str) (st' : DSt),
  vs = .ref x :: vs' ∧ (∀ a, O a = true → Al (H a)) ∧ O w.ps = true ∧ H w.ps = some (.lst (st.map V.int)) ∧ SqL K (hid H O) w.sa (w.ns.map V.int) ∧ RpAll w (hid H O) vs' ds ∧ F ds st = some (.error c, st') ∧ ∀ A H', mg c = some (.ref A) → Post O w.ps H st' H' → E (.ref A) none H'
def MkGood (P : Program) (w : World) (K : PySem.W.Frag) (mg : Str → Option Value) (base : Heap) (k : Nat) (nm : Str) (F : FnSem) : Prop :=
  ∃ (C f : Addr) (fd : FuncData) (ps : List Str) (j : Nat), j + 1 ≤ k ∧ Mk K C f ∧ FnOk P w K mg base (L2.CX P w) j f fd ps (spI K mg F) ∧ mg nm = some (.ref C) ∧ Binds K fd ps [] ∧ ∀ ds st r, F ds st = some r → ∃ c st', r = (.error c, st')
theorem MkGood.mono {P : Program} {w : World} {K : PySem.W.Frag} {mg : Str → Option Value} {base : Heap} {j k : Nat} {nm : Str} {F : FnSem} (h : MkGood P w K mg base j nm F) (hk : j ≤ k) : MkGood P w K mg base k nm F := by
  obtain ⟨C, f, fd, ps, i, h0, h1, h2, h3, h4, h5⟩ := h
  exact ⟨C, f, fd, ps, i, Nat.le_trans h0 hk, h1, h2, h3, h4, h5⟩
end TK
namespace TK
open PySem PySem.Spec PyProof.Rows L2
section
variable {P : Program} {w : World}
/-- the tuple at a is the key k -/
abbrev NI (P : Program) (w : World) (h : Heap) (k : NestedKey) (a : Addr) : Prop := (nestedKind P w).is h k a
abbrev nh (w : World) (k : NestedKey) : Int := k.hash w
variable {A : Around} {E : Value → Shared → Prop} {s : Shared}
theorem ni_grow {h h' : Heap} {k : NestedKey} {b : Addr} (x : NI P w h k b) (g : ∀ c o, h.get? c = some o → h'.get? c = some o) : NI P w h' k b :=
  ⟨NestedIs.at (fun a o _ _ e _ => g a o e) k _ x.1, x.2⟩
end
end TK
namespace TK
open PySem PySem.Spec PyProof.Rows L2
abbrev NL := List (Addr × NestedKey)
def nrows (w : World) (L : NL) : List (Int × Value) := L.map fun p => (nh w p.2, Value.ref p.1)
structure NSet (P : Program) (w : World) (h : Heap) (a : Addr) (L : NL) (es : Array (Int × Value)) (ep : Nat) (t : SetTable) : Prop where
  ob : ∃ o, h.get? a = some o ∧ o.ExactSet ∧ o.data = .set es ep t
  rows : es.toList = nrows w L
  tab : TabOk t (L.map fun p => nh w p.2)
  nd : (L.map (·.2)).Nodup
  tup : ∀ p ∈ L, NI P w h p.2 p.1
  led : w.params.followText "set-order" = true ∨ t.led = true
  room : L.length * 5 < t.mask * 3
  few : L.length < 77
section
variable {P : Program} {w : World} {A : Around} {E : Value → Shared → Prop} {s : Shared} {a : Addr} {L : NL} {es : Array (Int × Value)} {ep : Nat} {t : SetTable}
theorem nrows_size (h : es.toList = nrows w L) : es.size = L.length := by
  rw [← Array.length_toList, h]
  unfold nrows
  rw [List.length_map]
theorem fits_of {n : Nat} (h1 : t.place.size = n) (h2 : t.dummies = #[]) (h3 : n ≤ t.mask) : t.fits n = true := by
  unfold SetTable.fits SetTable.fill
  rw [h2, Bool.and_eq_true, beq_iff_eq, decide_eq_true_eq]
  exact ⟨h1, by show t.place.size + 0 ≤ t.mask; omega⟩
theorem NSet.fits (R : NSet P w s.heap a L es ep t) : t.fits es.size = true := by
  have h1 := R.tab.sz
  have h2 := R.room
  rw [List.length_map] at h1
  exact fits_of (by rw [nrows_size R.rows]; exact h1) R.tab.dm (by rw [nrows_size R.rows]; omega)
end
end TK
namespace TK
open PySem PySem.Spec PyProof.Rows L2
end TK
namespace TK
open PySem PySem.Spec PyProof.Rows L2
/-- the set at a has just the keys of ks -/
def NS (P : Program) (w : World) (h : Heap) (a : Addr) (ks : NL) : Prop := ∃ L es ep t, NSet P w h a L es ep t ∧ (∀ p ∈ L, p ∈ ks) ∧ ∀ p ∈ ks, p.2 ∈ L.map (·.2)
section
variable {P : Program} {w : World} {A : Around} {E : Value → Shared → Prop} {s : Shared} {a : Addr} {ks : NL}
theorem NS.at {h h' h0 : Heap} (N : NS P w h a ks) (ha : ∀ o, h.get? a = some o → h'.get? a = some o) (hk : ∀ p ∈ ks, NI P w h0 p.2 p.1) (g : ∀ b o, h0.get? b = some o → h'.get? b = some o) : NS P w h' a ks := by
  obtain ⟨L, es, ep, t, R, s1, s2⟩ := N
  obtain ⟨o, ho, r⟩ := R.ob
  exact ⟨L, es, ep, t, ⟨⟨o, ha o ho, r⟩, R.rows, R.tab, R.nd, fun p hp => ni_grow (hk p (s1 p hp)) g, R.led, R.room, R.few⟩, s1, s2⟩
end
end TK
namespace TK
open PySem PySem.Spec PyProof.Rows L2
end TK
namespace TK
open PySem PySem.Spec PyProof.Rows L2
/-- the set at a, its elements not looked at -/
def NS0 (w : World) (h : Heap) (a : Addr) (ks : NL) : Prop := ∃ (L : NL) (es : Array (Int × Value)) (ep : Nat) (t : SetTable), (∃ o, h.get? a = some o ∧ o.ExactSet ∧ o.data = .set es ep t) ∧ es.toList = nrows w L ∧ TabOk t (L.map fun p => nh w p.2) ∧ (L.map (·.2)).Nodup ∧
  (w.params.followText "set-order" = true ∨ t.led = true) ∧ L.length * 5 < t.mask * 3 ∧ L.length < 77 ∧ (∀ p ∈ L, p ∈ ks) ∧ ∀ p ∈ ks, p.2 ∈ L.map (·.2)
theorem NS0.full {P : Program} {w : World} {h : Heap} {a : Addr} {ks : NL} (N : NS0 w h a ks) (hk : ∀ p ∈ ks, NI P w h p.2 p.1) : NS P w h a ks := by
  obtain ⟨L, es, ep, t, h1, h2, h3, h4, h5, h6, h7, s1, s2⟩ := N
  exact ⟨L, es, ep, t, ⟨h1, h2, h3, h4, fun p hp => hk p (s1 p hp), h5, h6, h7⟩, s1, s2⟩
end TK
namespace TK
open PySem PySem.Spec PyProof.Rows L2
end TK
namespace TK
open PySem PySem.Spec PyProof.Rows L2
end TK
namespace TK
open PySem PySem.Spec PyProof.Rows L2
section
variable {K : PySem.W.Frag} {w : Dr} {O0 O : Addr → Bool} {H0 H : Hp} {σ : L2.St} {env : Env} {st : DSt} {i : Nat} {p : Addr} {ob o1 d kd : D} {v kv : V} {Q : Hp → Prop}
theorem le_own {o : HO} (h : O p = true) : Le (hid H O) (hid (upd H p o) O) := fun a u e => by
  obtain ⟨e1, e2⟩ := hid_some e
  have ne : a ≠ p := fun z => by rw [z, h] at e1; cases e1
  exact ⟨u, by rw [hid_of e1, upd_ne ne]; exact e2, .refl u⟩
theorem store_at (R3 : Rel K w O0 H0 O σ H env st) (hob : env[i]? = some (Slot.own ob)) (e1 : σ[i]? = some (some (.ref p))) (e5 : OwnAt w O H p ob) (rv : Rp w (hid H O) v d) (rk : Rp w (hid H O) kv kd) (hst : storeD ob kd d = some o1) (hp : O p = true)
    (o : ∀ H', Le (hid H O) (hid H' O) → Rel K w O0 H0 O σ H' (env.set i (.own o1)) st → Q H') : rSetL (.ref p) kv v H Q ∨ rSetD (.ref p) kv v H Q := by
  cases e5 with
  | @lst xs ds a b =>
    cases kd with
    | int j =>
      simp only [storeD, Option.map_eq_some_iff] at hst
      obtain ⟨jj, h2, rfl⟩ := hst
      cases rk
      exact .inl ⟨p, xs, j, jj, rfl, rfl, a, by rw [b.length]; exact h2, o _ (le_own hp) (R3.writeOwn hob e1 fun le => .lst upd_same ((b.set rv jj).mono le))⟩
    | _ => cases hst
  | @dK kvs l a b =>
    simp only [storeD, b.dictV, Option.bind_some] at hst
    split at hst
    · rename_i hc
      rw [Bool.and_eq_true, decide_eq_true_eq] at hc
      cases hst
      have kb : KeyB H false kv kd := Bp.key (w := w) (O := O) (.inl rk) hc.1
      cases kb with
      | k kk hs => exact .inr ⟨p, _, rfl, .inl ⟨kvs, kk, a, rfl, by rw [b.length]; exact hc.2, rfl⟩, o _ (le_own hp) (R3.writeOwn hob e1 fun le => .dK upd_same ((b.put hs rv).mono le))⟩
    · cases hst
  | @dT kvs l a b =>
    have hst : (if keyFor true kd && decide (l.length < lim) then some (mkD true (putD l kd d)) else none) = some o1 := hst
    split at hst
    · rename_i hc
      rw [Bool.and_eq_true, decide_eq_true_eq] at hc
      cases hst
      have kb : KeyB H true kv kd := Bp.key (w := w) (O := O) (.inl rk) hc.1
      cases kb with
      | t ks hs hb => exact .inr ⟨p, _, rfl, .inr ⟨kvs, ks, _, a, rfl, hb, by rw [b.length]; exact hc.2, rfl⟩, o _ (le_own hp) (R3.writeOwn hob e1 fun le => .dT upd_same ((b.put hs rv).mono le))⟩
    · cases hst
end
end TK
namespace TK
open PySem L2
/-- what stands by itself: the heap is not asked -/
def atomD : D → Bool
  | .none => true
  | .bool _ => true
  | .int _ => true
  | .str _ => true
  | .dict [(.none, .none)] => true
  | .dict [(.none, .list _)] => true
  | _ => false
def strD : D → Bool
  | .str _ => true
  | _ => false
/-- only what stands by itself is kept -/
def keepA (env : Env) : Env := env.map fun s => match s with
  | .val d => if atomD d = true then .val d else .no
  | _ => .no
/-- a list of texts, not empty -/
def strsD : D → Option (List D)
  | .list (.str x :: t) => if t.all strD = true then some (.str x :: t) else none
  | _ => none
abbrev KR := List (List D)
def Distinct (rows : List KR) : Prop := ∀ (i i' j j' : Nat) (r r' : KR) (ks : List D), rows[i]? = some r → rows[i']? = some r' → r[j]? = some ks → r'[j']? = some ks → i = i' ∧ j = j'
def encR (r : KR) : D := .list (r.map .list)
structure GW where
  fi : Nat
  wi : Nat
  ri : Nat
  ki : Nat
  A : TK.E
  B : TK.E
  C : TK.E
  N : TK.E
def spliceD (l : List D) : D → D → D → Option (List D)
  | .list m, .int a, .int c => if 0 ≤ a ∧ a ≤ c ∧ c ≤ l.length ∧ l.length + m.length ≤ lim then some (l.take a.toNat ++ m ++ l.drop c.toNat) else none
  | _, _, _ => none
def sliceF (i : Nat) (B C A : TK.E) : List FnSem → Env → M (Fl × Env) := fun Γ env =>
  liftO (ownL (frz env (esc A)) i) >>= fun l => ev Γ (frz env (esc A)) A >>= fun d => ev Γ (frz env (esc A)) B >>= fun b => ev Γ (frz env (esc A)) C >>= fun c => liftO (spliceD l d b c) >>= fun o => pure (.nx, (frz env (esc A)).set i (.own (.list o)))
end TK
namespace TK
open PySem PySem.Spec PyProof.Rows L2
section
variable {w : Dr} {G G' : Hp} {K : PySem.W.Frag} {O0 O O' : Addr → Bool} {H0 H H' : Hp} {σ : L2.St} {env : Env} {st st' : DSt}
theorem Rp.atom {T : List Addr} {v : V} {d : D} (h : Rp w G v d) (ha : atomD d = true) : Rp { w with T := T } G' v d := by
  cases h with
  | non => exact .non
  | bl b => exact .bl b
  | int i => exact .int i
  | str x h => exact .str x h
  | tok => exact .tok
  | scr => exact .scr
  | opq _ _ => cases ha
  | lst _ _ => cases ha
  | tup _ _ => cases ha
  | dK _ b =>
    cases b with
    | nil => cases ha
    | @cons k _ _ _ _ hk hv hr => cases k <;> simp [atomD, keyD] at ha
  | dT _ _ => cases ha
/-- the script's list: as it is seen, or of the module -/
theorem SqL.view {a : Addr} {xs : List V} (h : SqL K G a xs) (hG : Rd G a (.lst xs) → Rd G' a (.lst xs)) : SqL K G' a xs := by
  rcases h with h | h
  · exact .inl (hG h)
  · exact .inr h
theorem keepA_get {i : Nat} {s : Slot} (h : (keepA env)[i]? = some s) : s = .no ∨ ∃ d, s = .val d ∧ env[i]? = some (.val d) ∧ atomD d = true := by
  unfold keepA at h
  rw [List.getElem?_map, Option.map_eq_some_iff] at h
  obtain ⟨t, h1, rfl⟩ := h
  cases t with
  | no => exact .inl rfl
  | own d => exact .inl rfl
  | val d =>
    by_cases e : atomD d = true
    · exact .inr ⟨d, if_pos e, h1, e⟩
    · exact .inl (if_neg e)
theorem keepA_len : (keepA env).length = env.length := by unfold keepA; rw [List.length_map]
/-- another view of the same heap -/
theorem Rel.view (R : Rel K w O0 H0 O σ H env st) (T : List Addr) (hs : ∀ a, O0 a = true → O' a = true) (ha : ∀ a, O' a = true → Al (H a)) (hn : ∀ a, O' a = true → O0 a = false → H0 a = none)
    (hv : Rd (hid H O) w.sa (.lst (w.ns.map V.int)) → Rd (hid H O') w.sa (.lst (w.ns.map V.int))) : Rel K { w with T := T } O0 H0 O' σ H (keepA env) st := by
  refine ⟨R.ext, hs, R.alc0, ha, hn, R.ops, R.sts, SqL.view R.scr hv, keepA_len.trans R.len, fun i d h => ?_, fun i d h => ?_, fun i j p di dj h => ?_⟩
  · rcases keepA_get h with z | ⟨d', z, h1, h2⟩
    · cases z
    · cases z
      obtain ⟨v, e1, e2⟩ := R.val i d h1
      exact ⟨v, e1, e2.atom h2⟩
  · rcases keepA_get h with z | ⟨d', z, _⟩ <;> cases z
  · rcases keepA_get h with z | ⟨d', z, _⟩ <;> cases z
end
end TK
namespace TK
open PySem PySem.Spec PyProof.Rows L2
theorem RpAll.dropLast {w : Dr} {G : Hp} {vs : List V} {ds : List D} (h : RpAll w G vs ds) : RpAll w G vs.dropLast ds.dropLast := by
  rw [List.dropLast_eq_take, List.dropLast_eq_take, h.length]
  exact h.take _
end TK
namespace TK
open PySem PySem.Spec PyProof.Rows L2
/-- texts, by themselves -/
def TxtL (vs : List V) (ks : List D) : Prop := ∀ (w : Dr) (G : Hp), RpAll w G vs ks
def KeyAt (H : Hp) (b : Addr) (ks : List D) : Prop := ∃ vs, H b = some (.lst vs) ∧ TxtL vs ks ∧ ks.all strD = true ∧ ks ≠ []
structure RowAt (H : Hp) (a : Addr × List Addr) (r : KR) : Prop where
  at_ : H a.1 = some (.lst (a.2.map V.ref))
  len : a.2.length = r.length
  pos : 0 < r.length
  key : ∀ (j : Nat) (b : Addr) (ks : List D), a.2[j]? = some b → r[j]? = some ks → KeyAt H b ks
structure Rg (H : Hp) (p : Addr) (as : List (Addr × List Addr)) (rows : List KR) : Prop where
  at_ : H p = some (.lst (as.map fun a => V.ref a.1))
  len : as.length = rows.length
  row : ∀ (i : Nat) (a : Addr × List Addr) (r : KR), as[i]? = some a → rows[i]? = some r → RowAt H a r
def InR (p : Addr) (as : List (Addr × List Addr)) (x : Addr) : Prop := x = p ∨ ∃ a ∈ as, x = a.1 ∨ x ∈ a.2
theorem txt_ref {a : Addr} {vs : List V} {ks : List D} (h : TxtL (.ref a :: vs) ks) (hs : ks.all strD = true) (w : Dr) : False := by
  have := h w (fun _ => none)
  cases this with
  | cons q _ =>
    rw [List.all_cons, Bool.and_eq_true] at hs
    cases q with
    | lst _ _ => cases hs.1
    | tup _ _ => cases hs.1
    | dK _ _ => cases hs.1
    | dT _ _ => cases hs.1
    | tok => cases hs.1
    | scr => cases hs.1
    | opq _ _ => cases hs.1
theorem rp_str_inj {w : Dr} {G G' : Hp} {v : V} {d e : D} (h : Rp w G v d) (h' : Rp w G' v e) (hd : strD d = true) (he : strD e = true) : d = e := by
  cases d with
  | str s =>
    cases h
    cases e with
    | str t => cases h'; rfl
    | _ => cases he
  | _ => cases hd
theorem rpAll_str_inj {w : Dr} {G G' : Hp} : ∀ {vs : List V} {ds es : List D}, RpAll w G vs ds → RpAll w G' vs es → ds.all strD = true → es.all strD = true → ds = es
  | _, _, _, .nil, .nil, _, _ => rfl
  | _, _, _, .cons a b, .cons a' b', h, h' => by
    rw [List.all_cons, Bool.and_eq_true] at h h'
    rw [rp_str_inj a a' h.1 h'.1, rpAll_str_inj b b' h.2 h'.2]
section
variable {H H' : Hp} {p : Addr} {as : List (Addr × List Addr)} {rows : List KR}
theorem Rg.congr (h : Rg H p as rows) (e : ∀ x, InR p as x → H' x = H x) : Rg H' p as rows := by
  refine ⟨by rw [e p (.inl rfl)]; exact h.at_, h.len, fun i a r h1 h2 => ?_⟩
  have hm := List.mem_of_getElem? h1
  have ra := h.row i a r h1 h2
  refine ⟨by rw [e _ (.inr ⟨a, hm, .inl rfl⟩)]; exact ra.at_, ra.len, ra.pos, fun j b ks h3 h4 => ?_⟩
  obtain ⟨vs, k1, k2⟩ := ra.key j b ks h3 h4
  exact ⟨vs, by rw [e _ (.inr ⟨a, hm, .inr (List.mem_of_getElem? h3)⟩)]; exact k1, k2⟩
/-- no two of them are one -/
structure Dj (p : Addr) (as : List (Addr × List Addr)) : Prop where
  key : ∀ (i i' j j' : Nat) (a a' : Addr × List Addr) (b : Addr), as[i]? = some a → as[i']? = some a' → a.2[j]? = some b → a'.2[j']? = some b → i = i' ∧ j = j'
  row : ∀ (a : Addr × List Addr) (a' : Addr × List Addr) (b : Addr), a ∈ as → a' ∈ as → b ∈ a'.2 → a.1 ≠ b
  root : ∀ (a : Addr × List Addr), a ∈ as → p ≠ a.1 ∧ p ∉ a.2
theorem Rg.dj (w : Dr) (h : Rg H p as rows) (hd : Distinct rows) (hp : ∀ a ∈ as, p ≠ a.1 ∧ p ∉ a.2) : Dj p as := by
  have row_of : ∀ {i : Nat} {a : Addr × List Addr}, as[i]? = some a → ∃ r, rows[i]? = some r ∧ RowAt H a r := fun {i a} e => by
    have hi : i < rows.length := by rw [← h.len]; exact (List.getElem?_eq_some_iff.mp e).1
    exact ⟨rows[i], List.getElem?_eq_getElem hi, h.row i a _ e (List.getElem?_eq_getElem hi)⟩
  have key_of : ∀ {a : Addr × List Addr} {r : KR} {j : Nat} {b : Addr}, RowAt H a r → a.2[j]? = some b → ∃ ks, r[j]? = some ks ∧ KeyAt H b ks := fun {a r j b} ra e => by
    have hj : j < r.length := by rw [← ra.len]; exact (List.getElem?_eq_some_iff.mp e).1
    exact ⟨r[j], List.getElem?_eq_getElem hj, ra.key j b _ e (List.getElem?_eq_getElem hj)⟩
  refine ⟨fun i i' j j' a a' b e1 e2 e3 e4 => ?_, fun a a' b h1 h2 h3 z => ?_, hp⟩
  · obtain ⟨r, f1, r1⟩ := row_of e1
    obtain ⟨r', f2, r2⟩ := row_of e2
    obtain ⟨ks, f3, vs, k1, k2, k3, _⟩ := key_of r1 e3
    obtain ⟨ks', f4, vs', k1', k2', k3', _⟩ := key_of r2 e4
    rw [k1] at k1'
    cases k1'
    have := rpAll_str_inj (k2 w fun _ => none) (k2' w fun _ => none) k3 k3'
    subst this
    exact hd i i' j j' r r' ks f1 f2 f3 f4
  · obtain ⟨i, hi, rfl⟩ := List.mem_iff_getElem.mp h1
    obtain ⟨i', hi', rfl⟩ := List.mem_iff_getElem.mp h2
    obtain ⟨j, hj, rfl⟩ := List.mem_iff_getElem.mp h3
    obtain ⟨r, f1, r1⟩ := row_of (List.getElem?_eq_getElem hi)
    obtain ⟨r', f2, r2⟩ := row_of (List.getElem?_eq_getElem hi')
    obtain ⟨ks, f3, vs, k1, k2, k3, k4⟩ := key_of r2 (List.getElem?_eq_getElem hj)
    have := r1.at_
    rw [z, k1] at this
    cases this
    have hl := r1.len
    have hp := r1.pos
    cases e : as[i].2 with
    | nil => rw [e] at hl; simp at hl; omega
    | cons x xs =>
      rw [e] at k2
      exact txt_ref k2 k3 w
/-- a key is put behind the others of a list -/
theorem Rg.write (h : Rg H p as rows) (dj : Dj p as) {i j : Nat} {a : Addr × List Addr} {b : Addr} {r : KR} {ks : List D} {vs : List V} {v : V} {d : D} (e1 : as[i]? = some a) (e2 : rows[i]? = some r) (e3 : a.2[j]? = some b) (e4 : r[j]? = some ks) (hv : H b = some (.lst vs)) (hvd : ∀ w G, Rp w G v d) (hd : strD d = true) :
    Rg (upd H b (.lst (vs ++ [v]))) p as (rows.set i (r.set j (ks ++ [d]))) := by
  have hm := List.mem_of_getElem? e1
  have hb := List.mem_of_getElem? e3
  have hi : i < rows.length := (List.getElem?_eq_some_iff.mp e2).1
  have hj : j < r.length := (List.getElem?_eq_some_iff.mp e4).1
  refine ⟨by rw [upd_ne (fun z => (dj.root a hm).2 (by rw [z]; exact hb))]; exact h.at_, by rw [List.length_set]; exact h.len, fun i' a' r' f1 f2 => ?_⟩
  have hm' := List.mem_of_getElem? f1
  have na : a'.1 ≠ b := dj.row a' a b hm' hm hb
  by_cases ei : i = i'
  · subst ei
    rw [e1] at f1
    cases f1
    rw [List.getElem?_set_self hi] at f2
    cases f2
    have ra := h.row i a r e1 e2
    refine ⟨by rw [upd_ne na]; exact ra.at_, by rw [List.length_set]; exact ra.len, by rw [List.length_set]; exact ra.pos, fun j' b' ks' f3 f4 => ?_⟩
    by_cases ej : j = j'
    · subst ej
      rw [e3] at f3
      cases f3
      rw [List.getElem?_set_self hj] at f4
      cases f4
      obtain ⟨vs', k1, k2, k3, k4⟩ := ra.key j b ks e3 e4
      rw [hv] at k1
      cases k1
      refine ⟨_, upd_same, fun w G => (k2 w G).append (.cons (hvd w G) .nil), ?_, by simp⟩
      rw [List.all_append, k3]
      simp [hd]
    · rw [List.getElem?_set_ne ej] at f4
      have nb : b' ≠ b := fun z => by
        subst z
        exact ej (dj.key i i j j' a a b' e1 e1 e3 f3).2
      obtain ⟨vs', k1, k2⟩ := ra.key j' b' ks' f3 f4
      exact ⟨vs', by rw [upd_ne nb]; exact k1, k2⟩
  · rw [List.getElem?_set_ne ei] at f2
    have ra := h.row i' a' r' f1 f2
    refine ⟨by rw [upd_ne na]; exact ra.at_, ra.len, ra.pos, fun j' b' ks' f3 f4 => ?_⟩
    have nb : b' ≠ b := fun z => by
      subst z
      exact ei (dj.key i i' j j' a a' b' e1 f1 e3 f3).1
    obtain ⟨vs', k1, k2⟩ := ra.key j' b' ks' f3 f4
    exact ⟨vs', by rw [upd_ne nb]; exact k1, k2⟩
/-- what is seen of it -/
theorem Rg.rp (w : Dr) {G : Hp} (h : Rg G p as rows) : Rp w G (.ref p) (.list (rows.map encR)) := by
  refine .lst h.at_ ?_
  have key : ∀ (as' : List (Addr × List Addr)) (rows' : List KR), as'.length = rows'.length → (∀ (i : Nat) (a : Addr × List Addr) (r : KR), as'[i]? = some a → rows'[i]? = some r → RowAt G a r) → RpAll w G (as'.map fun a => V.ref a.1) (rows'.map encR) := by
    intro as'
    induction as' with
    | nil => intro rows' hl _; cases rows' with
      | nil => exact .nil
      | cons _ _ => cases hl
    | cons a as' ih =>
      intro rows' hl hr
      cases rows' with
      | nil => cases hl
      | cons r rows' =>
        refine .cons ?_ (ih rows' (by simpa using hl) fun i a r h1 h2 => hr (i + 1) a r (by simpa using h1) (by simpa using h2))
        have ra := hr 0 a r rfl rfl
        refine .lst ra.at_ ?_
        have key2 : ∀ (bs : List Addr) (r' : KR), bs.length = r'.length → (∀ (j : Nat) (b : Addr) (ks : List D), bs[j]? = some b → r'[j]? = some ks → KeyAt G b ks) → RpAll w G (bs.map V.ref) (r'.map PyData.list) := by
          intro bs
          induction bs with
          | nil => intro r' hl _; cases r' with
            | nil => exact .nil
            | cons _ _ => cases hl
          | cons b bs ih2 =>
            intro r' hl hk
            cases r' with
            | nil => cases hl
            | cons ks r' =>
              refine .cons ?_ (ih2 r' (by simpa using hl) fun i a r h1 h2 => hk (i + 1) a r (by simpa using h1) (by simpa using h2))
              obtain ⟨vs, k1, k2, _⟩ := hk 0 b ks rfl rfl
              exact .lst k1 (k2 w G)
        exact key2 a.2 r ra.len ra.key
  exact key as rows h.len h.row
end
end TK
namespace TK
open PySem PySem.Spec PyProof.Rows L2
section
variable {K : PySem.W.Frag} {w : Dr} {O0 O : Addr → Bool} {H0 H H' : Hp} {σ : L2.St} {env : Env} {st st' : DSt} {p : Addr} {as : List (Addr × List Addr)} {rows : List KR} {g : GW}
/-- between the steps: all of it is hidden, no name knows of it -/
structure Jn (K : PySem.W.Frag) (w : Dr) (O0 : Addr → Bool) (H0 : Hp) (O : Addr → Bool) (p : Addr) (as : List (Addr × List Addr)) (g : GW) (rows : List KR) (env : Env) (st : DSt) (σ : L2.St) (H : Hp) : Prop where
  rel : Rel K w O0 H0 O σ H env st
  rg : Rg H p as rows
  slot : σ[g.fi]? = some (some (.ref p))
  atoms : keepA env = env
  ef : env[g.fi]? = some .no
  er : env[g.ri]? = some .no
  ek : env[g.ki]? = some .no
theorem Rg.in_some (h : Rg H p as rows) {x : Addr} (hx : InR p as x) : ∃ l, H x = some (.lst l) := by
  rcases hx with rfl | ⟨a, ha, hx⟩
  · exact ⟨_, h.at_⟩
  · obtain ⟨i, hi, rfl⟩ := List.mem_iff_getElem.mp ha
    have hi' : i < rows.length := by rw [← h.len]; exact hi
    have ra := h.row i _ _ (List.getElem?_eq_getElem hi) (List.getElem?_eq_getElem hi')
    rcases hx with rfl | hx
    · exact ⟨_, ra.at_⟩
    · obtain ⟨j, hj, rfl⟩ := List.mem_iff_getElem.mp hx
      have hj' : j < (rows[i]).length := by rw [← ra.len]; exact hj
      obtain ⟨vs, k1, _⟩ := ra.key j _ _ (List.getElem?_eq_getElem hj) (List.getElem?_eq_getElem hj')
      exact ⟨vs, k1⟩
theorem Jn.post (J : Jn K w O0 H0 O p as g rows env st σ H) (hid : ∀ x, InR p as x → O x = true ∧ O0 x = false) (P : Post O w.ps H st' H') : Jn K w O0 H0 O p as g rows env st' σ H' := by
  refine ⟨J.rel.post P, J.rg.congr fun x hx => ?_, J.slot, J.atoms, J.ef, J.er, J.ek⟩
  obtain ⟨h1, h2⟩ := hid x hx
  obtain ⟨l, h3⟩ := J.rg.in_some hx
  rw [h3]
  exact P.1.own x _ h1 (J.rel.psne h2) h3
end
end TK
namespace TK
open PySem PySem.Spec PyProof.Rows L2
section
variable {X : Cx} {E : XK} {Γ : List FnSem} {w : Dr} {O0 O : Addr → Bool} {H0 H H' : Hp} {σ : L2.St} {env : Env} {st st' : DSt} {p : Addr} {as : List (Addr × List Addr)} {rows rows' : List KR} {g : GW} {D : Ends}
/-- all lists that may be hidden are hidden -/
def MX (w : Dr) (O0 : Addr → Bool) (H0 : Hp) : Prop := ∀ a o, H0 a = some o → O0 a = true ∨ (∃ ts, o = .tup ts) ∨ (a = w.sa ∧ Rd (hid H0 O0) w.sa (.lst (w.ns.map V.int)))
theorem MX.new {K : PySem.W.Frag} (m : MX w O0 H0) (R : Rel K w O0 H0 O σ H env st) {a : Addr} {x : V} {xs : List V} (ho : O a = false) (ha : H a = some (.lst (x :: xs))) (hx : ∀ i, x ≠ .int i) : H0 a = none := by
  have o0 : O0 a = false := by
    cases z : O0 a with
    | false => rfl
    | true => rw [R.sub a z] at ho; cases ho
  cases hh : H0 a with
  | none => rfl
  | some o =>
    exfalso
    obtain ⟨o', h1, kp⟩ := R.ext.rd a o o0 hh
    rw [ha] at h1
    cases h1
    rcases m a o hh with z | ⟨ts, rfl⟩ | ⟨rfl, z⟩
    · rw [z] at o0; cases o0
    · cases kp.tup
    · rcases z with z | ⟨od, z⟩
      · have h2 := (hid_some z).2
        rw [hh] at h2
        cases h2
        have := kp.lst
        cases hns : w.ns with
        | nil => rw [hns] at this; cases this
        | cons n ns =>
          rw [hns] at this
          injection this with this
          injection this with h3 h4
          exact hx n h3
      · have h2 := (hid_some z).2
        rw [hh] at h2
        cases h2
        cases kp.frz
end
end TK
namespace TK
open PySem PySem.Spec PyProof.Rows L2
end TK
namespace TK
open PySem PySem.Spec PyProof.Rows L2
end TK
namespace TK
open PySem PySem.Spec PyProof.Rows L2
def gSlc (to tl th : TE) : TG := fun v σ H Q => to σ H fun o H1 => tl σ H1 fun x H2 => th σ H2 fun y H3 => ∃ l b xs ys a c, o = .ref l ∧ v = .ref b ∧ x = .int a ∧ y = .int c ∧ H3 l = some (.lst xs) ∧ H3 b = some (.lst ys) ∧ l ≠ b ∧ 0 ≤ a ∧ a ≤ c ∧ c ≤ xs.length ∧ xs.length + ys.length ≤ sizeLine ∧
  Q σ (upd H3 l (.lst (xs.take a.toNat ++ ys ++ xs.drop c.toNat)))
section
variable {X : Cx} {E : XK} {Γ : List FnSem} {k : Nat}
theorem pg_slice {o lo hi : Expr} {to tl th : TE} {p2 pos : Pos} (ho : PE X o to) (hl : PE X lo tl) (hu : PE X hi th)
    (ha : ∀ v, assign (.Subscript o (.Slice (some lo) (some hi) none p2) pos) X.env v = (do
      let ov ← holding [v] (eval o X.env)
      let iv ← holding [v, ov] (eval (.Slice (some lo) (some hi) none p2) X.env)
      standAt pos
      holding [v, ov, iv] (setItem ov iv v)
      release [iv, v, ov] [])) : PG X (.Subscript o (.Slice (some lo) (some hi) none p2) pos) (gSlc to tl th) := by
  refine ⟨fun pins s σ H v u Q I r h => ?_⟩
  rw [ha]
  refine wpAny_bind (wpAny_holding (thn (ho.run pins s σ H _ I h) fun ov s1 ⟨x, H1, I1, r1, q1⟩ => ?_))
  refine wpAny_bind (wpAny_holding ?_)
  refine wpAny_Slice ?_
  rw [evalPart_some]
  refine thn (hl.run pins s1 σ H1 _ I1 q1) fun vl s2 ⟨y, H2, I2, r2, q2⟩ => ?_
  rw [evalPart_some]
  refine thn (hu.run pins s2 σ H2 _ I2 q2) fun vu s3 ⟨z, H3, I3, r3, q3⟩ => ?_
  rw [evalPart_none]
  refine wpAny_pure ?_
  have I4 : L2.Inv X pins σ H3 { s3 with heap := s3.heap.push { cls := .type "slice", data := .fields #[vl, vu, .none] } } := I3.kept (t' := s3.toks) fun b ob q => Heap.get?_push_of_some _ q
  obtain ⟨l, b, xs, ys, a, c, rfl, rfl, rfl, rfl, e1, e2, e3, e4, e5, e6, e7, e8⟩ := q3
  refine wpAny_bind (wpAny_standAt (wpAny_bind (wpAny_holding ?_)))
  have e9 : ov = .ref l := r1
  have e10 : u = .ref b := r
  subst e9 e10
  refine set_slice I4 e1 e2 e3 (Heap.IsSliceOf.new ..) r2 r3 e4 e5 e6 e7 fun s5 I5 => ?_
  exact wpAny_release ⟨σ, _, I5, e8⟩
theorem x_slice {x : Str} {i : Nat} {e lo hi : Expr} {A B C : TK.E} {p0 p2 tpos pos : Pos} (hN : X.N[i]? = some x) (hv : (visB X.env.scope x && okN x) = true) (he : PE X e (rd X.K X.mg E Γ A)) (hl : PE X lo (rd X.K X.mg E Γ B)) (hu : PE X hi (rd X.K X.mg E Γ C))
    (ha : ∀ v, assign (.Subscript (.Name x p0) (.Slice (some lo) (some hi) none p2) tpos) X.env v = (do
      let ov ← holding [v] (eval (.Name x p0) X.env)
      let iv ← holding [v, ov] (eval (.Slice (some lo) (some hi) none p2) X.env)
      standAt tpos
      holding [v, ov, iv] (setItem ov iv v)
      release [iv, v, ov] []))
    (hs : swapsWithSole [.Subscript (.Name x p0) (.Slice (some lo) (some hi) none p2) tpos] e pos.line X.env = pure false) (hw : swappedStores [.Subscript (.Name x p0) (.Slice (some lo) (some hi) none p2) tpos] e X.env = pure none) (h1 : (assignEach [.Subscript (.Name x p0) (.Slice (some lo) (some hi) none p2) tpos] X.env).map (·.2) = [assign (.Subscript (.Name x p0) (.Slice (some lo) (some hi) none p2) tpos) X.env]) :
    PS X (.Assign [.Subscript (.Name x p0) (.Slice (some lo) (some hi) none p2) tpos] e pos) (rdS X.K X.mg E Γ (.cust (sliceF i B C A))) := by
  rw [Bool.and_eq_true] at hv
  refine (ps_asg he (pg_slice (pe_var hN (vis_of hv.1) (okN1 hv.2) (okN2 hv.2)) hl hu ha) hs hw h1).weak fun D σ H q => ?_
  obtain ⟨w, O0, H0, O, env, st, r, st', R, q, o⟩ := q
  have q : sliceF i B C A Γ env st = some (r, st') := q
  unfold sliceF at q
  obtain ⟨O1, R1⟩ := R.frz (esc A)
  generalize frz env (esc A) = env1 at q R1
  rcases bind_inv q with ⟨c, g1, rfl⟩ | ⟨l, st1, g1, g2⟩
  · obtain ⟨_, _, z, _⟩ := liftO_inv g1; cases z
  obtain ⟨_, hl, z, rfl⟩ := liftO_inv g1
  cases z
  have hl := ownL_inv hl
  obtain ⟨p, e1, e2, e3, e4⟩ := R1.own i _ hl
  rcases bind_inv g2 with ⟨c, g3, rfl⟩ | ⟨d, st2, g3, g4⟩
  · exact ⟨w, O0, H0, O1, env1, _, .error c, _, R1, g3, o.err R1⟩
  refine ⟨w, O0, H0, O1, env1, _, .ok d, st2, R1, g3, fun H1 p1 v rv => ?_⟩
  have R2 := R1.post p1
  refine ⟨_, e1, ?_⟩
  rcases bind_inv g4 with ⟨c, g5, rfl⟩ | ⟨b, st3, g5, g6⟩
  · exact ⟨w, O0, H0, O1, env1, _, .error c, _, R2, g5, o.err R2⟩
  refine ⟨w, O0, H0, O1, env1, _, .ok b, st3, R2, g5, fun H2 p2 vb rb => ?_⟩
  have R3 := R2.post p2
  rcases bind_inv g6 with ⟨c, g7, rfl⟩ | ⟨cc, st4, g7, g8⟩
  · exact ⟨w, O0, H0, O1, env1, _, .error c, _, R3, g7, o.err R3⟩
  refine ⟨w, O0, H0, O1, env1, _, .ok cc, st4, R3, g7, fun H3 p3 vc rc => ?_⟩
  have R4 := R3.post p3
  rcases bind_inv g8 with ⟨c, g9, rfl⟩ | ⟨o1, st5, g9, g10⟩
  · obtain ⟨_, _, z, _⟩ := liftO_inv g9; cases z
  obtain ⟨_, hsp, z, rfl⟩ := liftO_inv g9
  cases z
  obtain ⟨rfl, rfl⟩ := pure_inv g10
  have P := (p1.trans p2).trans p3
  have rv3 := (rv.mono p2.1.le).mono p3.1.le
  have rb3 := rb.mono p3.1.le
  cases d with
  | list m =>
    cases b with
    | int a =>
      cases cc with
      | int c =>
        simp only [spliceD] at hsp
        split at hsp
        · rename_i hc
          cases hsp
          obtain ⟨c1, c2, c3, c4⟩ := hc
          cases e4 with
          | lst aa bb =>
            have a' := P.1.own p _ e2 (R1.psne e3) aa
            have b' := bb.mono P.1.le
            cases rv3 with
            | @lst bq ys _ za zr =>
              cases rb3
              cases rc
              have fr := (hid_some za).1
              have hne : p ≠ bq := fun z => by rw [← z, e2] at fr; cases fr
              refine ⟨p, bq, _, ys, a, c, rfl, rfl, rfl, rfl, a', (hid_some za).2, hne, c1, c2, by rw [b'.length]; exact c3, by rw [b'.length, zr.length]; exact c4, ?_⟩
              exact o _ _ _ (R4.writeOwn hl e1 fun le => .lst upd_same ((((b'.take _).append zr).append (b'.drop _)).mono le))
        · cases hsp
      | _ => cases hsp
    | _ => cases hsp
  | _ => cases hsp
end
end TK
namespace TK
open PySem PySem.Spec PyProof.Rows L2
theorem strOk_parts {a b : Str} (h : PyData.strOk (a ++ b) = true) : PyData.strOk a = true ∧ PyData.strOk b = true := by
  unfold PyData.strOk at *
  have h : (a.cps ++ b.cps).all _ = true := h
  rw [Array.all_append, Bool.and_eq_true] at h
  exact h
theorem strOk_pieces {a : Str} : ∀ {l : List Str}, PyData.strOk (Str.join a l) = true → ∀ x ∈ l, PyData.strOk x = true
  | [], _, x, hx => nomatch hx
  | [y], h, x, hx => by rw [List.mem_singleton.mp hx]; exact h
  | y :: z :: r, h, x, hx => by
    have h : PyData.strOk (y ++ a ++ Str.join a (z :: r)) = true := h
    obtain ⟨h1, h2⟩ := strOk_parts h
    rcases List.mem_cons.mp hx with rfl | hx
    · exact (strOk_parts h1).1
    · exact strOk_pieces h2 x hx
theorem rp_strsL {w : Dr} {G : Hp} : ∀ {l : List Str}, (∀ x ∈ l, PyData.strOk x = true) → RpAll w G (l.map V.str) (l.map PyData.str)
  | [], _ => .nil
  | x :: l, h => .cons (.str x (h x List.mem_cons_self)) (rp_strsL fun y hy => h y (List.mem_cons_of_mem _ hy))
def rCountD (K : PySem.W.Frag) : V → List V → Hp → VK → Prop := fun x xs H Q => ∃ (a : Addr) (y : V) (d : PyData) (ds : List PyData), x = V.ref a ∧ xs = [y] ∧ Dp K H (V.ref a) (.list ds) ∧ Dp K H y d ∧
  SeqAt.shaped (.list ds) = true ∧ SeqAt.shaped d = true ∧ Q (.int ((ds.filter fun z => PyData.eqv z d).length : Nat)) H
section
variable {X : Cx}
theorem mt_countD (hu : X.A.units + 65 < cLine) : MtR X "list.count" (rCountD X.K) := by
  intro pins s σ H x xs v us Q I rx rxs h
  obtain ⟨a, y, d, ds, rfl, rfl, hl, hy, sl, sd, q⟩ := h
  cases rx
  cases rxs with
  | cons ry rt =>
    rename_i uy ut
    cases rt
    obtain ⟨bs, r1⟩ := Dp.reads I d y uy hy ry
    have hxs : PyData.canLayAll0 ds = true := SeqAt.canLay_of_shaped sl
    have hroom : X.A.units + 1 + min (PyData.depthAll ds) d.depth < cLine := room_in_shaped sd hu
    cases hl with
    | lst hs ha =>
      obtain ⟨its, rv, ⟨⟨cls, dd, data, sls⟩, n, ho, hc, hdn, hdt⟩, hlen⟩ := I.list hs
      simp only at hc hdt
      subst hc hdt
      obtain ⟨as, h4⟩ := Dp.readsAll I ds _ its ha rv
      have hmap : its.map (SeqAt.readOf s.heap) = ds := SeqAt.readsAll_map ds its as hxs h4
      refine call_meets PySem.F.slot_list_count ⟨_, ho, rfl⟩ PySem.F.entry_list_count (PySem.F.args_list_count_2 _ _)
        (SeqAt.list_countAt a its.toArray n dd sls uy (fun u => PyData.eqv (SeqAt.readOf s.heap u) d)) ⟨ho, SeqAt.items_eqAt (vs := its.toArray) (show ReadsAll s.heap its.toArray.toList ds as from h4) r1 hxs (SeqAt.canLay_of_shaped sd) hroom, ?_⟩
      refine ⟨.int ((ds.filter fun z => PyData.eqv z d).length : Nat), H, I.tok _, ⟨s.toks, ?_⟩, q⟩
      show Value.int ((its.toArray.toList.countP _ : Nat) : Int) s.toks = _
      congr 2
      rw [← hmap, List.countP_eq_length_filter, List.filter_map, List.length_map]
      rfl
end
section
variable {X : Cx} {E : XK} {Γ : List FnSem} {k : Nat} {pos apos cpos : Pos}
theorem e_count {s : Str} {j : Nat} {p0 : Pos} {a : Expr} {A : TK.E} (c : Cxt X k E) (hok : PyData.strOk s = true) (hbase : attributeBase a "count" X.env (eval a X.env) = eval a X.env) (hline : (apos.endLine == cpos.line) = true) (ha : PE X a (rdB X.K X.mg E Γ A)) :
    PE X (.Call (.Attribute a "count" apos) [.Constant (.str s) j p0] [] cpos) (rd X.K X.mg E Γ (.op2 .count A (.con (.str s)))) := by
  refine (pe_bm PySem.F.plainAttrs_list PySem.F.slot_list_count rfl (mt_countD (room65 c.room)) ha (pa_cons (pe_str (x := s)) pa_nil (star_ok rfl)) hbase (few_ok rfl) hline (star_ok rfl) rfl).weak fun σ H Q q => ?_
  obtain ⟨w, O0, H0, O, env, st, rr, st', R, q, oo⟩ := q
  have q : (orB env A (ev Γ env A) >>= fun x => liftO (app2 .count x (.str s))) st = some (rr, st') := q
  refine rdB_bind R q oo fun d st1 v H1 R1 p1 q1 h1 o1 => ?_
  obtain ⟨x, h3, rfl, rfl⟩ := liftO_inv h1
  cases d with
  | list l =>
    simp only [app2] at h3
    split at h3
    · rename_i hc
      cases h3
      obtain ⟨c1, c2, _⟩ := all60 hc
      obtain ⟨pa, xs, rfl, g1, r1⟩ := q1.list
      refine ⟨.inl ⟨rfl, _, SqL.of g1⟩, ?_⟩
      have rs : Rp w (hid H1 O) (.str s) (.str s) := .str s hok
      exact ⟨pa, .str s, .str s, l, rfl, rfl, q1.dp c2, Bp.dp (.inl rs) c1, shaped_of (q1.lay c2) c2 (by decide), shaped_of (Bp.lay (.inl rs) c1) c1 (by decide), o1 H1 R1.here _ (.int _)⟩
    · cases h3
  | _ => cases h3
theorem e_split {s : Str} {j : Nat} {p0 : Pos} {a : Expr} {A : TK.E} (c : Cxt X k E) (hbase : attributeBase a "split" X.env (eval a X.env) = eval a X.env) (hline : (apos.endLine == cpos.line) = true) (ha : PE X a (rdB X.K X.mg E Γ A)) :
    PE X (.Call (.Attribute a "split" apos) [.Constant (.str s) j p0] [] cpos) (rd X.K X.mg E Γ (.op2 .split A (.con (.str s)))) := by
  refine (pe_split ha (pe_str (x := s)) (star_ok rfl) hbase hline).weak fun σ H Q q => ?_
  obtain ⟨w, O0, H0, O, env, st, rr, st', R, q, oo⟩ := q
  have q : (orB env A (ev Γ env A) >>= fun x => liftO (app2 .split x (.str s))) st = some (rr, st') := q
  refine rdB_bind R q oo fun d st1 v H1 R1 p1 q1 h1 o1 => ?_
  obtain ⟨x, h3, rfl, rfl⟩ := liftO_inv h1
  cases d with
  | str z =>
    simp only [app2] at h3
    split at h3
    · rename_i hc
      cases h3
      obtain ⟨rfl, hz⟩ := q1.str
      refine ⟨⟨z, rfl⟩, z, s, rfl, rfl, hc.1, hc.2, fun p hp => ?_⟩
      have hs : ∀ x ∈ Txt.split z s, PyData.strOk x = true := strOk_pieces (a := s) (by rw [StrLaws.join_split]; exact hz)
      exact o1 _ (R1.post_new hp) _ (rp_newL R1 hp (rp_strsL hs))
    · cases h3
  | _ => cases h3
theorem e_endsw {s : Str} {j : Nat} {p0 : Pos} {a : Expr} {A : TK.E} (c : Cxt X k E) (hbase : attributeBase a "endswith" X.env (eval a X.env) = eval a X.env) (hline : (apos.endLine == cpos.line) = true) (ha : PE X a (rdB X.K X.mg E Γ A)) :
    PE X (.Call (.Attribute a "endswith" apos) [.Constant (.str s) j p0] [] cpos) (rd X.K X.mg E Γ (.op2 .endsw A (.con (.str s)))) := by
  refine (pe_m1 PySem.F.slot_str_endswith PySem.F.type_str_endswith mt_endswith ha (pe_str (x := s)) (star_ok rfl) hbase hline).weak fun σ H Q q => ?_
  obtain ⟨w, O0, H0, O, env, st, rr, st', R, q, oo⟩ := q
  have q : (orB env A (ev Γ env A) >>= fun x => liftO (app2 .endsw x (.str s))) st = some (rr, st') := q
  refine rdB_bind R q oo fun d st1 v H1 R1 p1 q1 h1 o1 => ?_
  obtain ⟨x, h3, rfl, rfl⟩ := liftO_inv h1
  cases d with
  | str z =>
    cases h3
    obtain ⟨rfl, hz⟩ := q1.str
    exact ⟨⟨z, rfl⟩, z, s, rfl, rfl, o1 H1 R1.here _ (.bl _)⟩
  | _ => cases h3
end
end TK
namespace L2
open PySem PySem.Spec PyProof.Rows
section
variable {X : Cx}
theorem PET.wk {e : Expr} {t t' : TE} (h : PET X e t) (i : ∀ σ H Q, t' σ H Q → t σ H Q) : PET X e t' := fun pins s σ H Q h0 I q => h pins s σ H Q h0 I (i _ _ _ q)
theorem PAT.wk {es : List Expr} {t t' : TA} (h : PAT X es t) (i : ∀ σ H Q, t' σ H Q → t σ H Q) : PAT X es t' := fun pos pins s σ H Q h0 I q => h pos pins s σ H Q h0 I (i _ _ _ q)
theorem PIT.wk {tg it : Expr} {t t' : TI} (h : PIT X tg it t) (i : ∀ σ H R, t' σ H R → t σ H R) : PIT X tg it t' := fun pins s σ H R h0 I q => h pins s σ H R h0 I (i _ _ _ q)
theorem PST.wk {st : Stmt} {t t' : TS} (h : PST X st t) (i : ∀ D σ H, t' D σ H → t D σ H) : PST X st t' := fun pins s σ H D h0 I q => h pins s σ H D h0 I (i _ _ _ q)
theorem PSsT.wk {st : List Stmt} {t t' : TS} (h : PSsT X st t) (i : ∀ D σ H, t' D σ H → t D σ H) : PSsT X st t' := fun pins s σ H D h0 I q => h pins s σ H D h0 I (i _ _ _ q)
theorem PIT.len {tg it : Expr} {wi : TI} (h : PIT X tg it wi) : PIT X tg it (fun σ H R => wi σ H fun J H1 => TK.HLen X.K H1 → R J H1) := fun pins s σ H R h0 I q => thn (h pins s σ H _ h0 I q) fun v s1 h1 => thn h1 fun u s2 h2 => by
  obtain ⟨it, fp, tn, J, H', e1, I2, e3, e4, e5, e6⟩ := h2
  exact ⟨it, fp, tn, J, H', e1, I2, e3, e4, e5, e6 I2.hlen⟩
theorem pst_set {i : Nat} {x : Str} {e : Expr} {te : TE} {pos' pos : Pos} (hN : X.N.Nodup) (hi : X.N[i]? = some x) (hx : Loc X.env.scope x) (he : PET X e te) (hs : swapsWith e (some (.Name x pos')) pos.line X.env = pure false) (hf : X.fn x = true ∨ X.env.scope.names.lookup x = some .local) :
    PST X (.Assign [.Name x pos'] e pos) (tAsg te (gName i)) := by
  intro pins s σ H D h0 I h
  refine wpAny_Assign_Name (thn (he pins s σ H _ h0 I h) fun v s1 ⟨y, H1, I1, r1, q1⟩ => ?_) hs
  exact store_ok I1 hN hi hx r1 (fun s2 I2 => ⟨_, H1, I2, q1⟩) hf
/-- x = ["..", ..]: behind it a token is out -/
theorem pss_lstT {i : Nat} {x c : Str} {j : Nat} {es : List Expr} {rest : List Stmt} {ta : TA} {u : TS} {cp lp pos' pos : Pos} (hN : X.N.Nodup) (hi : X.N[i]? = some x) (hx : Loc X.env.scope x) (hr : PA X es ta) (h2 : PSsT X rest u)
    (hst : starEach (.Constant (.str c) j cp :: es) X.env = (false, eval (.Constant (.str c) j cp) X.env) :: starEach es X.env)
    (hs : swapsWith (.List (.Constant (.str c) j cp :: es) lp) (some (.Name x pos')) pos.line X.env = pure false) (hf : X.fn x = true ∨ X.env.scope.names.lookup x = some .local) :
    PSs X (.Assign [.Name x pos'] (.List (.Constant (.str c) j cp :: es) lp) pos :: rest) (tSeq (tAsg (tLst (tCons (tC (.str c)) ta)) (gName i)) u) := by
  refine ⟨fun pins s σ H D I h => ?_⟩
  have h : ta σ H fun xs H2 => (V.str c :: xs).length ≤ sizeLine ∧ ∀ p, H2 p = none → (gName i) (.ref p) σ (upd H2 p (.lst (V.str c :: xs))) fun σ' H' => u D σ' H' := h
  refine wpAny_execs_cons (wpAny_Assign_Name (wpAny_List_spliced ?_) hs)
  rw [hst]
  show wpAny _ _ (spliced ((false, eval (.Constant (.str c) j cp) X.env) :: backTo lp (starEach es X.env))) _ _ s
  refine Calls.spliced_cons (Calls.Constant_str ?_)
  refine wpAny_mono (PySem.wpAny_toks (hr.run lp pins { s with toks := s.toks + 1 } σ H _ (I.tok _) h)) (fun us s1 q => ?_) fun _ _ z => z.2
  obtain ⟨hk, xs, H1, I1, r, z, q⟩ := q
  have hk : s.toks + 1 ≤ s1.toks := hk
  have hf1 : H1 s1.heap.objs.size = none := I1.hok.fresh (Nat.le_refl _)
  have rv : Vals (V.str c :: xs) (Value.str c s.toks :: us) := .cons ⟨_, rfl⟩ r
  refine ⟨by rw [← rv.length]; exact z, ?_⟩
  refine wpAny_mono (PySem.wpAny_toks (store_ok (v := V.ref s1.heap.objs.size) (H := upd H1 s1.heap.objs.size (.lst (V.str c :: xs))) (Q := fun _ s2 => ∃ σ' H', L2.Inv X pins σ' H' s2 ∧ u D σ' H') (I1.laid (t' := s1.toks) (fun b u e => Heap.get?_push_of_some _ e) (Nat.le_refl _) ⟨z, Value.str c s.toks :: us, 0, rv, Heap.get?_push_size _ rfl⟩) hN hi hx rfl (fun s2 I2 => ⟨_, _, I2, q _ hf1⟩) hf)) (fun _ s2 q => ?_) fun _ _ z => z.2
  obtain ⟨hk2, σ', H', I3, q3⟩ := q
  have hk2 : s1.toks ≤ s2.toks := hk2
  exact h2 pins s2 σ' H' D (by omega) I3 q3
end
end L2
namespace TK
open PySem PySem.Spec PyProof.Rows L2
section
variable {K : PySem.W.Frag} {mg : Str → Option Value} {E : XK} {Γ : List FnSem}
theorem inc_con {c : Str} (h : PyData.strOk c = true) : ∀ σ H Q, rd K mg E Γ (.con (.str c)) σ H Q → tC (.str c) σ H Q := fun σ H Q q => by
  obtain ⟨w, O0, H0, O, env, st, r, st', R, q, o⟩ := q
  obtain ⟨rfl, rfl⟩ := pure_inv (a := PyData.str c) q
  exact o H R.here _ (.str c h)
theorem inc_acons {T : TK.E} {Ts : List TK.E} : ∀ σ H Q, rdA K mg E Γ (T :: Ts) σ H Q → tCons (rd K mg E Γ T) (rdA K mg E Γ Ts) σ H Q := fun σ H Q q => by
  obtain ⟨w, O0, H0, O, env, st, r, st', R, q, o⟩ := q
  refine rd_bind R (f := fun d => evs Γ env Ts >>= fun ds => pure (d :: ds)) q o fun d st1 v H1 R1 p1 q1 h1 o1 => ?_
  refine rdA_bind R1 h1 o1 fun ds st2 vs H2 R2 p2 q2 h2 o2 => ?_
  obtain ⟨rfl, rfl⟩ := pure_inv h2
  exact o2 H2 R2.here (v :: vs) (.cons (q1.mono p2.1.le) q2)
theorem inc_lst {Ts : List TK.E} : ∀ σ H Q, rd K mg E Γ (.lst Ts) σ H Q → tLst (rdA K mg E Γ Ts) σ H Q := fun σ H Q q => by
  obtain ⟨w, O0, H0, O, env, st, r, st', R, q, o⟩ := q
  refine rdA_bind R (f := fun ds => if ds.length ≤ lim then pure (PyData.list ds) else fail) q o fun ds st1 vs H1 R1 p1 q1 h1 o1 => ?_
  split at h1
  · obtain ⟨rfl, rfl⟩ := pure_inv h1
    refine ⟨by rw [q1.length]; assumption, fun p hp => o1 _ (R1.post_new hp) _ (rp_newL R1 hp q1)⟩
  · cases h1
theorem tcons_mono {t t' : TE} {u : TA} (h : ∀ σ H Q, t σ H Q → t' σ H Q) : ∀ σ H Q, tCons t u σ H Q → tCons t' u σ H Q := fun σ H Q q => h _ _ _ q
theorem inc_xcons {T : S} {Ts : List S} : ∀ D σ H, rdSs K mg E Γ (T :: Ts) D σ H → tSeq (rdS K mg E Γ T) (rdSs K mg E Γ Ts) D σ H := fun D σ H q => by
  obtain ⟨w, O0, H0, O, env, st, r, st', R, q, o⟩ := q
  have q : (ex Γ T env >>= fun p => match p.1 with | .nx => exs Γ Ts p.2 | .rt v => (pure (.rt v, p.2) : M (Fl × Env))) st = some (r, st') := q
  rcases bind_inv q with ⟨c, g1, rfl⟩ | ⟨⟨fl, env1⟩, st1, g1, g2⟩
  · exact ⟨w, O0, H0, O, env, st, _, _, R, g1, o⟩
  · refine ⟨w, O0, H0, O, env, st, _, _, R, g1, ?_⟩
    cases fl with
    | nx => exact fun O' σ' H' R' => ⟨w, O0, H0, O', env1, st1, r, st', R', g2, o⟩
    | rt d =>
      obtain ⟨rfl, rfl⟩ := pure_inv (a := (Fl.rt d, env1)) g2
      exact o
end
section
variable {X : Cx} {E : XK} {Γ : List FnSem} {k : Nat} {pos apos cpos : Pos}
theorem t_of {e : Expr} {T : TK.E} (h : PE X e (rd X.K X.mg E Γ T)) : PET X e (rd X.K X.mg E Γ T) := CwR.PET.of h
theorem t_ofB {e : Expr} {T : TK.E} (h : PE X e (rdB X.K X.mg E Γ T)) : PET X e (rdB X.K X.mg E Γ T) := CwR.PET.of h
theorem t_B {e : Expr} {T : TK.E} (hT : isVar T = false) (h : PET X e (rd X.K X.mg E Γ T)) : PET X e (rdB X.K X.mg E Γ T) := h.wk fun σ H Q q => by
  obtain ⟨w, O0, H0, O, env, st, r, st', R, q, o⟩ := q
  rw [orB_notvar (notVar hT)] at q
  refine ⟨w, O0, H0, O, env, st, r, st', R, q, ?_⟩
  cases r with
  | ok d => exact fun H' p v z => o H' p v (.inl z)
  | error c => exact o
theorem t_repl {y z : Str} {j l : Nat} {c0 c1 : Pos} {a : Expr} {A : TK.E} (hyz : (y == z) = false)
    (hst : starEach [.Constant (.str y) j c0, .Constant (.str z) l c1] X.env = [(false, eval (.Constant (.str y) j c0) X.env), (false, eval (.Constant (.str z) l c1) X.env)])
    (hbase : attributeBase a "replace" X.env (eval a X.env) = eval a X.env) (hline : (apos.endLine == pos.line) = true) (ha : PET X a (rdB X.K X.mg E Γ A)) :
    PET X (.Call (.Attribute a "replace" apos) [.Constant (.str y) j c0, .Constant (.str z) l c1] [] pos) (rd X.K X.mg E Γ (.op1 (.repl y z) A)) :=
  (CwR.pet_replT (y := y) (z := z) ha hyz hst hbase hline).wk fun σ H Q q => by
    obtain ⟨w, O0, H0, O, env, st, rr, st', R, q, oo⟩ := q
    have q : (orB env A (ev Γ env A) >>= fun x => liftO (app1 (.repl y z) x)) st = some (rr, st') := q
    refine rdB_bind R q oo fun d st1 v H1 R1 p1 q1 h1 o1 => ?_
    obtain ⟨x, h3, rfl, rfl⟩ := liftO_inv h1
    cases d with
    | str s =>
      simp only [app1] at h3
      split at h3
      · rename_i hc
        cases h3
        obtain ⟨rfl, hz⟩ := q1.str
        exact ⟨s, rfl, hc.1, o1 H1 R1.here _ (.str _ hc.2)⟩
      · cases h3
    | _ => cases h3
theorem t_anil : PAT X [] (rdA X.K X.mg E Γ []) := fun pos pins s σ H Q _ I q => (s_nil (X := X) (E := E) (Γ := Γ)).run pos pins s σ H Q I q
theorem t_acons {e : Expr} {es : List Expr} {T : TK.E} {Ts : List TK.E} (hs : notStar e = true) (h : PET X e (rd X.K X.mg E Γ T)) (hr : PAT X es (rdA X.K X.mg E Γ Ts)) : PAT X (e :: es) (rdA X.K X.mg E Γ (T :: Ts)) := (pat_cons h hr (star_ok hs)).wk inc_acons
theorem t_lst {es : List Expr} {Ts : List TK.E} (h : PAT X es (rdA X.K X.mg E Γ Ts)) : PET X (.List es pos) (rd X.K X.mg E Γ (.lst Ts)) := (pet_lst h).wk inc_lst
theorem t_add {a b : Expr} {A B : TK.E} (ha : PET X a (rdB X.K X.mg E Γ A)) (hb : PET X b (rdB X.K X.mg E Γ B)) : PET X (.BinOp a .Add b pos) (rd X.K X.mg E Γ (.op2 .add A B)) := by
  obtain ⟨r, h1, h2⟩ := ok_add (X := X)
  exact (CwR.pet_op h1 ha hb).wk (OpOk.tOp (f := binaryOp .Add) h2)
theorem t_asg {i : Nat} {x : Str} {e : Expr} {A : TK.E} {pos' : Pos} (c : Cxt X k E) (hi : X.N[i]? = some x) (hx : locB X.env.scope x = true) (hf : tgB X x = true) (hs : swapsWith e (some (.Name x pos')) pos.line X.env = pure false) (he : PET X e (rd X.K X.mg E Γ A)) :
    PST X (.Assign [.Name x pos'] e pos) (rdS X.K X.mg E Γ (.asg false i A)) := (pst_set c.nd hi (loc_of hx) he hs (tg_of hf)).wk (asg_of (ow := false) fun _ _ _ q => q)
theorem t_xcons {s : Stmt} {ss : List Stmt} {T : S} {Ts : List S} (h1 : PST X s (rdS X.K X.mg E Γ T)) (h2 : PSsT X ss (rdSs X.K X.mg E Γ Ts)) : PSsT X (s :: ss) (rdSs X.K X.mg E Γ (T :: Ts)) := (psst_cons h1 h2).wk inc_xcons
theorem t_xof {ss : List Stmt} {Ts : List S} (h : PSs X ss (rdSs X.K X.mg E Γ Ts)) : PSsT X ss (rdSs X.K X.mg E Γ Ts) := PSsT.of h
theorem t_start {i j : Nat} {x c0 : Str} {es : List Expr} {rest : List Stmt} {Ts : List TK.E} {Bs : List S} {cp lp pos' : Pos} (c : Cxt X k E) (hi : X.N[i]? = some x) (hx : locB X.env.scope x = true) (hf : tgB X x = true) (hok : PyData.strOk c0 = true)
    (hs : swapsWith (.List (.Constant (.str c0) j cp :: es) lp) (some (.Name x pos')) pos.line X.env = pure false) (he : PA X es (rdA X.K X.mg E Γ Ts)) (h2 : PSsT X rest (rdSs X.K X.mg E Γ Bs)) :
    PSs X (.Assign [.Name x pos'] (.List (.Constant (.str c0) j cp :: es) lp) pos :: rest) (rdSs X.K X.mg E Γ (.asg false i (.lst (.con (.str c0) :: Ts)) :: Bs)) :=
  (pss_lstT c.nd hi (loc_of hx) he h2 (star_ok rfl) hs (tg_of hf)).weak fun D σ H q => asg_of (ow := false) (fun σ H Q q => tcons_mono (inc_con hok) _ _ _ (inc_acons _ _ _ (inc_lst _ _ _ q))) _ _ _ (inc_xcons _ _ _ q)
theorem add_list {A : TK.E} {Ts : List TK.E} {env : Env} {st st' : DSt} {d : D} (h : ev Γ env (.op2 .add A (.lst Ts)) st = some (.ok d, st')) : ∃ l, d = .list l := by
  have h : (orB env A (ev Γ env A) >>= fun x => ev Γ env (.lst Ts) >>= fun y => liftO (app2 .add x y)) st = some (.ok d, st') := h
  rcases bind_inv h with ⟨c, g1, z⟩ | ⟨x, st1, g1, g2⟩
  · cases z
  rcases bind_inv g2 with ⟨c, g3, z⟩ | ⟨y, st2, g3, g4⟩
  · cases z
  obtain ⟨v, h3, z, _⟩ := liftO_inv g4
  cases z
  have g3 : (evs Γ env Ts >>= fun ds => if ds.length ≤ lim then (pure (PyData.list ds) : M D) else fail) st1 = some (.ok y, st2) := g3
  rcases bind_inv g3 with ⟨c, g5, z⟩ | ⟨ds, st3, g5, g6⟩
  · cases z
  split at g6
  · obtain ⟨z, _⟩ := pure_inv g6
    cases z
    cases x with
    | list l =>
      simp only [app2] at h3
      split at h3
      · cases h3; exact ⟨_, rfl⟩
      · cases h3
    | _ => cases h3
  · cases g6
theorem t_iter {tg e : Expr} {A : TK.E} {Ts : List TK.E} (h : PET X e (rd X.K X.mg E Γ (.op2 .add A (.lst Ts)))) : PIT X tg e (rdI X.K X.mg E Γ false .plain [.op2 .add A (.lst Ts)]) := by
  have h' : PET X e (rdM X.K X.mg E Γ false (.op2 .add A (.lst Ts))) := h.wk fun σ H Q q => by
    obtain ⟨w, O0, H0, O, env, st, rr, st', R, q, oo⟩ := q
    refine ⟨w, O0, H0, O, env, st, rr, st', R, q, ?_⟩
    cases rr with
    | ok d => exact fun H' p v b => oo H' p v ⟨.inl b, fun _ => b⟩
    | error c => exact oo
  refine (pit_list h').len.wk fun σ H R q => ?_
  obtain ⟨w, O0, H0, O, env, st, rr, st', Re, q, oo⟩ := q
  have q' := evsM1 q
  rcases bind_inv q' with ⟨c, h1, rfl⟩ | ⟨d, st1, h1, h2⟩
  · exact ⟨w, O0, H0, O, env, st, .error c, _, Re, h1, oo⟩
  · obtain ⟨items, h3, rfl, rfl⟩ := liftO_inv h2
    obtain ⟨l, rfl⟩ := add_list h1
    cases h3
    refine ⟨w, O0, H0, O, env, st, .ok _, _, Re, h1, fun H1 p1 v b1 => ?_⟩
    obtain ⟨a, xs, rfl, g1, r1⟩ := b1.1.list
    have np := b1.1.ne_ps (Re.post p1)
    refine ⟨a, rfl, ⟨xs, SqL.of g1⟩, fun hl => oo H1 p1 _ ⟨[(a, .lst xs)], YAt xs, fun p hp => ?_, ?_, yat_ok r1, fun p hp => ?_⟩ (by rw [← r1.length]; exact hl a xs (.inl (SqL.of g1)))⟩
    · rw [List.mem_singleton.mp hp]; exact g1
    · rw [← r1.length]
      exact walk_list.mono (fun H z => SqL.of (z.1 (a, .lst xs) List.mem_cons_self)) fun _ _ _ _ _ _ y => y
    · rw [List.mem_singleton.mp hp]; exact ⟨np, fun z => rp_free (b1.2 z), .inl ⟨xs, rfl⟩⟩
theorem t_for0 {tg iter : Expr} {body : List Stmt} {tgt : Tg} {ik : IK} {src : List TK.E} {B : List S} (hp : PassesOwn (model X.prog X.w) X.A X.env X.xe) (hc : X.calm = true) (hi : PIT X tg iter (rdI X.K X.mg E Γ false ik src)) (hg : PG X tg (rdG X.K tgt)) (hb : PSs X body (rdSs X.K X.mg E Γ B))
    (hs : ∀ x, foldedSetIterable iter X.env x = pure x) : PST X (.For tg iter body [] pos) (rdS X.K X.mg E Γ (.for tgt ik src B)) := by
  refine (pst_for hp hc hi hg hb hs).wk fun D σ H q => ?_
  obtain ⟨w, O0, H0, O, env, st, r, st', R, q, o⟩ := q
  have q : (evs Γ (frz env (escs src)) src >>= fun ds => liftO (walkL ik ds) >>= fun items => forL tgt (exs Γ B) items (frz env (escs src))) st = some (r, st') := q
  obtain ⟨O1, R1⟩ := R.frz (escs src)
  generalize frz env (escs src) = env1 at q R1
  have q : ((evs Γ env1 src >>= fun ds => liftO (walkL ik ds)) >>= fun items => forL tgt (exs Γ B) items env1) st = some (r, st') := by rw [bind_assoc']; exact q
  rcases bind_inv q with ⟨c, g1, rfl⟩ | ⟨items, st1, g1, g2⟩
  · exact ⟨w, O0, H0, O1, env1, st, .error c, _, R1, g1, o.err R1⟩
  · refine ⟨w, O0, H0, O1, env1, st, .ok items, st1, R1, g1, fun H1 p1 J hJ hlen => ?_⟩
    obtain ⟨objs, Y, hat, wk, yok, kinds⟩ := hJ
    have R2 := R1.post p1
    refine ⟨fun i m σ' H' => m = items.length - i ∧ i ≤ items.length ∧ ∃ Oi envi sti, Rel X.K w O0 (baseH H1 O1 O0) Oi σ' H' envi sti ∧ forL tgt (exs Γ B) (items.drop i) envi sti = some (r, st'), ⟨_, rfl, Nat.zero_le _, O1, env1, st1, R2.rebase, g2⟩, ?_⟩
    rintro i m σi Hi ⟨rfl, hi, Oi, envi, sti, Ri, fi⟩
    have le := R2.leB Ri
    have at' : AtO objs Hi ∧ SqL X.K Hi w.sa (w.ns.map V.int) := ⟨fun p hp => by
      obtain ⟨_, k2, k3⟩ := kinds p hp
      have h1 : hid H1 O1 p.1 = some p.2 := by rw [hid_of (k2 rfl)]; exact hat p hp
      rcases k3 with ⟨xs, e⟩ | ⟨xs, e⟩ | ⟨od, u, e, _⟩
      · rw [e] at h1 ⊢
        exact (hid_some (le.lst h1)).2
      · rw [e] at h1 ⊢
        exact (hid_some (le.tup h1)).2
      · rw [e] at h1 ⊢
        exact (hid_some (le.frz h1)).2, hid_le.sqL Ri.scr⟩
    by_cases hlt : i < items.length
    · right
      refine ⟨wk.goes i Hi hlt at', fun σ' H' => ∃ Oj envj stj, Rel X.K w O0 (baseH H1 O1 O0) Oj σ' H' envj stj ∧ forL tgt (exs Γ B) (items.drop (i + 1)) envj stj = some (r, st'), fun σ' H' ⟨Oj, envj, stj, Rj, fj⟩ => ⟨_, ?_, rfl, hlt, Oj, envj, stj, Rj, fj⟩, fun x H' y => ?_⟩
      · omega
      · obtain ⟨alloc, d, hd, rp⟩ := yok i Hi x H' Oi hlt (wk.yields i Hi x H' hlt at' y) le Ri.alc
        have Rj : Rel X.K w O0 (baseH H1 O1 O0) Oi σi H' envi sti := Ri.post (Ri.postN alloc)
        have hdrop : items.drop i = d :: items.drop (i + 1) := List.drop_eq_getElem?_toList_append.trans (by rw [hd]; rfl)
        rw [hdrop] at fi
        have fi : (liftO (asgT tgt d envi) >>= fun env1 => exs Γ B env1 >>= fun p => match p.1 with | .nx => forL tgt (exs Γ B) (items.drop (i + 1)) p.2 | .rt v => (pure (.rt v, p.2) : M (Fl × Env))) sti = some (r, st') := fi
        rcases bind_inv fi with ⟨c, g3, rfl⟩ | ⟨env2, st2, g3, g4⟩
        · obtain ⟨_, _, z, _⟩ := liftO_inv g3; cases z
        obtain ⟨_, hasg, z, rfl⟩ := liftO_inv g3
        cases z
        refine ⟨w, O0, _, Oi, envi, _, d, env2, Rj, rp, hasg, fun σ2 R3 _ => ?_⟩
        rcases bind_inv g4 with ⟨c, g5, rfl⟩ | ⟨⟨fl, env3⟩, st3, g5, g6⟩
        · exact ⟨w, O0, _, Oi, env2, _, .error c, _, R3, g5, o.baseErr R2⟩
        · refine ⟨w, O0, _, Oi, env2, _, .ok (fl, env3), st3, R3, g5, ?_⟩
          cases fl with
          | nx => exact fun O' σ' H'' R4 => ⟨O', env3, st3, R4, g6⟩
          | rt v =>
            obtain ⟨rfl, rfl⟩ := pure_inv (a := (Fl.rt v, env3)) g6
            exact fun v' H'' P rp' => o v' H'' (R2.postB P) rp'
    · left
      obtain rfl : i = items.length := by omega
      rw [List.drop_length] at fi
      obtain ⟨rfl, rfl⟩ := pure_inv (a := (Fl.nx, envi)) fi
      exact ⟨wk.stops Hi at', o _ _ _ (R2.unbase Ri)⟩
theorem t_for {tg iter : Expr} {body : List Stmt} {tgt : Tg} {ik : IK} {src : List TK.E} {B : List S} (c : Cxt X k E) (o : OwnP X) (hs : ∀ x, foldedSetIterable iter X.env x = pure x) (hi : PIT X tg iter (rdI X.K X.mg E Γ false ik src)) (hg : PG X tg (rdG X.K tgt)) (hb : PSs X body (rdSs X.K X.mg E Γ B)) : PST X (.For tg iter body [] pos) (rdS X.K X.mg E Γ (.for tgt ik src B)) := t_for0 o c.calm hi hg hb hs
theorem f_split {s : Str} {j : Nat} {p0 : Pos} {a : Expr} {A : TK.E} (c : Cxt X k E) (hbase : attributeBase a "split" X.env (eval a X.env) = eval a X.env) (hline : (apos.endLine == cpos.line) = true) (ha : PE X a (rdB X.K X.mg E Γ A)) :
    PE X (.Call (.Attribute a "split" apos) [.Constant (.str s) j p0] [] cpos) (rdF X.K X.mg E Γ true (.op2 .split A (.con (.str s)))) := by
  refine (pe_split ha (pe_str (x := s)) (star_ok rfl) hbase hline).weak fun σ H Q q => ?_
  obtain ⟨w, O0, H0, O, env, st, r, st', R, q, hB, o⟩ := q
  have q : (orB env A (ev Γ env A) >>= fun x => liftO (app2 .split x (.str s))) st = some (r, st') := q
  refine rdB_bind R q o fun d st1 v H1 R1 p1 q1 h1 o1 => ?_
  obtain ⟨x, h3, rfl, rfl⟩ := liftO_inv h1
  cases d with
  | str z =>
    simp only [app2] at h3
    split at h3
    · rename_i hc
      cases h3
      obtain ⟨rfl, hz⟩ := q1.str
      refine ⟨⟨z, rfl⟩, z, s, rfl, rfl, hc.1, hc.2, fun p hp => ?_⟩
      have hs : ∀ x ∈ Txt.split z s, PyData.strOk x = true := strOk_pieces (a := s) (by rw [StrLaws.join_split]; exact hz)
      exact o1 _ (R1.post_new hp) _ (R.fresh p1 hp) (newL_of R1 hp (rp_strsL hs))
    · cases h3
  | _ => cases h3
end
end TK
namespace TK.P
open PySem TK
abbrev nn : E := .con .none
def deep : Nat := 8
noncomputable section
def b_is_ascending : Fn := ⟨1, 3, [.ret (.op1 .all (.comp [1, 2] (.t [(.n 1), (.n 2)]) .zip2 [.var 0, .slc (.var 0) (some (.con (.int 1))) none] [] (.op2 .lt (.var 1) (.var 2))))]⟩
def f_is_ascending : FnSem := run [] b_is_ascending
def b_is_word : Fn := ⟨1, 2, [.ite (.or (.op1 .not (.op1 (.isi .str) (.var 0))) (.op1 .not (.chain .le .le (.con (.int 1)) (.op1 .len (.var 0)) (.con (.int 4))))) [.ret (.con (.bool false))] [],
  .ret (.op1 .all (.comp [1] (.n 1) .plain [.var 0] [] (.chain .le .le (.con (.str "a")) (.var 1) (.con (.str "z")))))]⟩
def f_is_word : FnSem := run [] b_is_word
def b_are_keys : Fn := ⟨1, 2, [.ite (.or (.op1 .not (.op1 (.isi .tuple) (.var 0))) (.or (.op2 .gt (.op1 .len (.var 0)) (.con (.int 6))) (.op1 .not (.op1 .all (.comp [1] (.n 1) .plain [.var 0] [] (.call 0 [.var 1])))))) [.ret (.con (.bool false))] [],
  .ret (.call 1 [.var 0])]⟩
def f_are_keys : FnSem := run [f_is_word, f_is_ascending] b_are_keys
def b_is_lock : Fn := ⟨1, 1, [.ite (.or (.op1 .not (.op1 (.isi .tuple) (.var 0))) (.or (.op2 .ne (.op1 .len (.var 0)) (.con (.int 3))) (.op1 .not (.call 0 [.op2 .ix (.var 0) (.con (.int 0))])))) [.ret (.con (.bool false))] [],
  .ret (.and (.call 1 [.op2 .ix (.var 0) (.con (.int 1))]) (.call 1 [.op2 .ix (.var 0) (.con (.int 2))]))]⟩
def f_is_lock : FnSem := run [f_is_word, f_are_keys] b_is_lock
def b_is_plant : Fn := ⟨1, 2, [.ite (.or (.op1 .not (.op1 (.isi .tuple) (.var 0))) (.op1 .not (.chain .le .le (.con (.int 1)) (.op1 .len (.var 0)) (.con (.int 8))))) [.ret (.con (.bool false))] [],
  .ret (.and (.op1 .all (.comp [1] (.n 1) .plain [.var 0] [] (.call 0 [.var 1]))) (.call 1 [.comp [1] (.n 1) .plain [.var 0] [] (.op2 .ix (.var 1) (.con (.int 0)))]))]⟩
def f_is_plant : FnSem := run [f_is_lock, f_is_ascending] b_is_plant
def b__law_draw : Fn := ⟨3, 8, [.ite (.op1 .not (.op3 2 (.var 1) nn nn)) [.tokApp 1 (.op1 .max (.op2 .add (.comp [4] (.n 4) .plain [.var 0] [] (.op1 .abs (.var 4))) (.lst [.con (.int 0)])))] [],
  .tokApp 1 (.con (.int 0)),
  .asg false 3 (.op3 0 (.var 1) nn nn),
  .asg false 4 (.ite (.op3 5 (.var 0) nn nn) (.op3 4 (.var 0) (.op2 .mod (.var 3) (.op3 3 (.var 0) nn nn)) nn) (.con (.int 0))),
  .asg false 5 (.op2 .mod (.op3 1 (.var 1) nn nn) (.con (.int 65536))),
  .tokSet 1 (.op2 .fdiv (.op3 1 (.var 1) nn nn) (.con (.int 65536))),
  .asg false 6 (.op2 .mod (.op2 .add (.op2 .add (.var 4) (.op2 .mul (.con (.int 40503)) (.var 5))) (.op2 .mul (.con (.int 104729)) (.var 3))) (.con (.int 4294967291))),
  .asg false 6 (.op2 .mod (.op2 .mul (.op2 .mod (.op2 .mul (.var 6) (.var 6)) (.con (.int 4294967279))) (.con (.int 48271))) (.con (.int 4294967291))),
  .asg false 7 (.op2 .mod (.op2 .mul (.op2 .mod (.op2 .mul (.var 6) (.var 6)) (.con (.int 4294967279))) (.con (.int 69621))) (.con (.int 4294967291))),
  .ret (.op2 .mod (.op2 .add (.op2 .mul (.op2 .fdiv (.var 6) (.con (.int 64))) (.con (.int 67108864))) (.op2 .fdiv (.var 7) (.con (.int 64)))) (.var 2))]⟩
def f__law_draw : FnSem := run [] b__law_draw
def b__law_pick : Fn := ⟨3, 3, [.ret (.op2 .ix (.var 2) (.call 0 [.var 0, .var 1, .op1 .len (.var 2)]))]⟩
def f__law_pick : FnSem := run [f__law_draw] b__law_pick
def b__law_shuffled : Fn := ⟨3, 5, [.par [(3, true), (4, true)] [.op1 .listOf (.var 2), .lst []],
  .while (.var 3) [.appPop 4 3 (.call 0 [.var 0, .var 1, .op1 .len (.var 3)])],
  .ret (.var 4)]⟩
def f__law_shuffled : FnSem := run [f__law_draw] b__law_shuffled
def b__law_plant : Fn := ⟨3, 10, [.asg false 3 (.call 0 [.var 0, .var 1, .lst [.con (.str "a"), .con (.str "b"), .con (.str "c"), .con (.str "d"), .con (.str "door"), .con (.str "e"), .con (.str "main"), .con (.str "zz")]]),
  .asg false 4 (.slc (.lst [.con (.str "k"), .con (.str "l"), .con (.str "m"), .con (.str "n"), .con (.str "o"), .con (.str "p")]) none (some (.op2 .add (.con (.int 1)) (.call 1 [.var 0, .var 1, .con (.int 6)])))),
  .par [(6, false), (7, true)] [.call 2 [.var 0, .var 1, .lst [.lst [.con (.int 0), .con (.int 1)], .lst [.con (.int 0), .con (.int 1), .con (.int 1), .con (.int 2)], .lst [.con (.int 1), .con (.int 2)]]], .lst []],
  .for (.n 5) .plain [.op1 .sorted (.slc (.var 3) none (some (.op2 .add (.con (.int 1)) (.call 1 [.var 0, .var 1, .var 2]))))] [.asg false 8 (.slc (.call 0 [.var 0, .var 1, .var 4]) none (some (.call 2 [.var 0, .var 1, .var 6]))),
  .asg false 9 (.slc (.call 0 [.var 0, .var 1, .var 4]) none (some (.call 2 [.var 0, .var 1, .var 6]))),
  .append 7 (.tup [.var 5, .op1 .tupleOf (.op1 .sorted (.var 8)), .op1 .tupleOf (.op1 .sorted (.var 9))])],
  .ret (.op1 .tupleOf (.var 7))]⟩
def f__law_plant : FnSem := run [f__law_shuffled, f__law_draw, f__law_pick] b__law_plant
def b_is_integer : Fn := ⟨3, 3, [.ret (.and (.op1 (.isi .int) (.var 0)) (.and (.op1 .not (.op1 (.isi .bool) (.var 0))) (.chain .le .le (.var 1) (.var 0) (.var 2))))]⟩
def f_is_integer : FnSem := run [] b_is_integer
def b_require_plant : Fn := ⟨1, 1, [.ite (.op1 .not (.call 0 [.var 0])) [.raise "InvalidPlant"] []]⟩
def f_require_plant : FnSem := run [f_is_plant] b_require_plant
def b_held_by : Fn := ⟨2, 2, [.ret (.op2 .ix (.var 0) (.op2 .add (.con (.int 1)) (.var 1)))]⟩
def f_held_by : FnSem := run [] b_held_by
def b_are_places : Fn := ⟨2, 3, [.ite (.or (.op1 .not (.op1 (.isi .tuple) (.var 1))) (.op2 .ne (.op1 .len (.var 1)) (.op1 .len (.var 0)))) [.ret (.con (.bool false))] [],
  .ret (.op1 .all (.comp [2] (.n 2) .plain [.var 1] [] (.call 0 [.var 2, .con (.int 0), .con (.int 1)])))]⟩
def f_are_places : FnSem := run [f_is_integer] b_are_places
def b_fits : Fn := ⟨2, 5, [.asg true 2 (.lst []),
  .for (.t [(.n 3), (.n 4)]) .zip2 [.var 0, .var 1] [.extend 2 (.call 0 [.var 3, .var 4])],
  .ret (.op2 .eq (.op1 .setLen (.var 2)) (.op1 .len (.var 2)))]⟩
def f_fits : FnSem := run [f_held_by] b_fits
def b_is_valid_state : Fn := ⟨2, 2, [.ret (.and (.call 0 [.var 0, .var 1]) (.call 1 [.var 0, .var 1]))]⟩
def f_is_valid_state : FnSem := run [f_are_places, f_fits] b_is_valid_state
def b_require_state : Fn := ⟨2, 2, [.exp (.call 0 [.var 0]),
  .ite (.op1 .not (.call 1 [.var 0, .var 1])) [.raise "InvalidState"] []]⟩
def f_require_state : FnSem := run [f_require_plant, f_is_valid_state] b_require_state
def b__law_same : Fn := ⟨2, 4, [.ite (.op1 .isN (.var 1)) [.ret (.op1 .isN (.var 0))] [],
  .ite (.op1 (.isi .bool) (.var 1)) [.ret (.and (.op1 (.isi .bool) (.var 0)) (.op2 .eq (.var 0) (.var 1)))] [],
  .ite (.op1 (.isi .tuple) (.var 1)) [.ite (.or (.op1 .not (.op1 (.isi .tuple) (.var 0))) (.op2 .ne (.op1 .len (.var 0)) (.op1 .len (.var 1)))) [.ret (.con (.bool false))] [],
  .ret (.op1 .all (.comp [2, 3] (.t [(.n 2), (.n 3)]) .zip2 [.var 0, .var 1] [] (.call 0 [.var 2, .var 3])))] [],
  .ite (.op1 (.isi .str) (.var 1)) [.ret (.and (.op1 (.isi .str) (.var 0)) (.op2 .eq (.var 0) (.var 1)))] [],
  .ret (.and (.op1 (.isi .int) (.var 0)) (.and (.op1 .not (.op1 (.isi .bool) (.var 0))) (.op2 .eq (.var 0) (.var 1))))]⟩
def f__law_same : Nat → FnSem
  | 0 => fun _ => fail
  | n + 1 => run [(f__law_same n)] b__law_same
def b__law_fits : Fn := ⟨2, 5, [.asg false 2 (.lst []),
  .for (.t [(.n 3), (.n 4)]) .zip2 [.var 0, .var 1] [.asg false 2 (.op2 .add (.var 2) (.op1 .listOf (.op2 .ix (.var 3) (.op2 .add (.con (.int 1)) (.var 4)))))],
  .ret (.op2 .eq (.op1 .setLen (.var 2)) (.op1 .len (.var 2)))]⟩
def f__law_fits : FnSem := run [] b__law_fits
def b__law_vectors : Fn := ⟨1, 5, [.asg false 1 (.lst [.tup []]),
  .for (.n 2) .range1 [.var 0] [.asg false 3 (.lst []),
  .for (.n 4) .plain [.var 1] [.asg false 3 (.op2 .add (.var 3) (.lst [.op2 .add (.var 4) (.tup [.con (.int 0)]), .op2 .add (.var 4) (.tup [.con (.int 1)])]))],
  .asg false 1 (.var 3)],
  .ret (.var 1)]⟩
def f__law_vectors : FnSem := run [] b__law_vectors
def b__law_states : Fn := ⟨1, 2, [.ret (.comp [1] (.n 1) .plain [.call 0 [.op1 .len (.var 0)]] [.call 1 [.var 0, .var 1]] (.var 1))]⟩
def f__law_states : FnSem := run [f__law_vectors, f__law_fits] b__law_states
def b__law_some : Fn := ⟨3, 6, [.for (.n 3) .range1 [.con (.int 20)] [.asg false 4 (.call 0 [.var 0, .var 1, .var 2]),
  .asg false 5 (.call 1 [.var 4]),
  .ite (.var 5) [.ret (.tup [.var 4, .var 5, .call 2 [.var 0, .var 1, .var 5]])] []],
  .ret (.tup [.tup [.tup [.con (.str "a"), .tup [], .tup []]], .lst [.tup [.con (.int 0)], .tup [.con (.int 1)]], .tup [.con (.int 0)]])]⟩
def f__law_some : FnSem := run [f__law_plant, f__law_states, f__law_pick] b__law_some
def b_with_spaces : Fn := ⟨1, 2, [.ret (.op2 .join (.con (.str "")) (.comp [1] (.n 1) .plain [.var 0] [] (.op2 .add (.con (.str " ")) (.var 1))))]⟩
def f_with_spaces : FnSem := run [] b_with_spaces
def b_plant_text : Fn := ⟨1, 6, [.asg false 1 (.comp [2, 3, 4] (.t [(.n 2), (.n 3), (.n 4)]) .plain [.var 0] [] (.op2 .add (.op2 .add (.op2 .add (.op2 .add (.var 2) (.con (.str ":"))) (.call 0 [.var 3])) (.con (.str " |"))) (.call 0 [.var 4]))),
  .ret (.op2 .join (.con (.str "")) (.comp [5] (.n 5) .plain [.var 1] [] (.op2 .add (.var 5) (.con (.str "\n")))))]⟩
def f_plant_text : FnSem := run [f_with_spaces] b_plant_text
def b_format_plant : Fn := ⟨1, 1, [.exp (.call 0 [.var 0]),
  .ret (.call 1 [.var 0])]⟩
def f_format_plant : FnSem := run [f_require_plant, f_plant_text] b_format_plant
def b_state_text : Fn := ⟨2, 4, [.ret (.op2 .join (.con (.str " ")) (.comp [2, 3] (.t [(.n 2), (.n 3)]) .zip2 [.var 0, .var 1] [] (.op2 .add (.op2 .add (.op2 .ix (.var 2) (.con (.int 0))) (.con (.str "="))) (.op1 .str (.var 3)))))]⟩
def f_state_text : FnSem := run [] b_state_text
def b_format_state : Fn := ⟨2, 2, [.exp (.call 0 [.var 0, .var 1]),
  .ret (.call 1 [.var 0, .var 1])]⟩
def f_format_state : FnSem := run [f_require_state, f_state_text] b_format_state
def b_parse_lock : Fn := ⟨1, 3, [.asg false 1 (.op2 .split (.var 0) (.con (.str " "))),
  .ite (.or (.op2 .ne (.op2 .count (.var 1) (.con (.str "|"))) (.con (.int 1))) (.op1 .not (.op2 .endsw (.op2 .ix (.var 1) (.con (.int 0))) (.con (.str ":"))))) [.raise "ParseError"] [],
  .asg false 2 (.idx (.var 1) (.con (.str "|"))),
  .ret (.tup [.slc (.op2 .ix (.var 1) (.con (.int 0))) none (some (.op1 .neg (.con (.int 1)))), .op1 .tupleOf (.slc (.var 1) (some (.con (.int 1))) (some (.var 2))), .op1 .tupleOf (.slc (.var 1) (some (.op2 .add (.var 2) (.con (.int 1)))) none)])]⟩
def f_parse_lock : FnSem := run [] b_parse_lock
def b_parse_plant : Fn := ⟨1, 3, [.ite (.op1 .not (.op1 (.isi .str) (.var 0))) [.raise "ParseError"] [],
  .asg false 1 (.op1 .tupleOf (.compX [2] (.n 2) .plain [.slc (.op2 .split (.var 0) (.con (.str "\n"))) none (some (.op1 .neg (.con (.int 1))))] [] (.call 0 [.var 2]))),
  .ite (.or (.op1 .not (.call 1 [.var 1])) (.op2 .ne (.call 2 [.var 1]) (.var 0))) [.raise "ParseError"] [],
  .ret (.var 1)]⟩
def f_parse_plant : FnSem := run [f_parse_lock, f_is_plant, f_plant_text] b_parse_plant
def b_parse_state : Fn := ⟨2, 4, [.exp (.call 0 [.var 0]),
  .ite (.op1 .not (.op1 (.isi .str) (.var 1))) [.raise "ParseError"] [],
  .asg false 2 (.op1 .tupleOf (.comp [3] (.n 3) .plain [.op2 .split (.var 1) (.con (.str " "))] [] (.op1 .int (.op2 .endsw (.var 3) (.con (.str "1")))))),
  .ite (.or (.op1 .not (.call 1 [.var 0, .var 2])) (.op2 .ne (.call 2 [.var 0, .var 2]) (.var 1))) [.raise "ParseError"] [],
  .ret (.var 2)]⟩
def f_parse_state : FnSem := run [f_require_plant, f_is_valid_state, f_state_text] b_parse_state
def b__law_spoiled : Fn := ⟨4, 10, [.par [(5, false), (6, false)] [.call 0 [.var 0, .var 1, .op2 .add (.op1 .len (.var 2)) (.con (.int 1))], .call 0 [.var 0, .var 1, .con (.int 6)]],
  .asg false 4 (.call 1 [.var 0, .var 1, .var 3]),
  .ite (.op2 .eq (.var 6) (.con (.int 0))) [.ret (.op2 .add (.slc (.var 2) none (some (.var 5))) (.slc (.var 2) (some (.op2 .add (.var 5) (.con (.int 1)))) none))] [],
  .ite (.op2 .eq (.var 6) (.con (.int 1))) [.ret (.op2 .add (.op2 .add (.slc (.var 2) none (some (.var 5))) (.var 4)) (.slc (.var 2) (some (.var 5)) none))] [],
  .ite (.op2 .eq (.var 6) (.con (.int 2))) [.asg true 7 (.op2 .split (.var 2) (.con (.str "\n"))),
  .asg false 8 (.call 0 [.var 0, .var 1, .op1 .len (.var 7)]),
  .cust (sliceF 7 (.var 8) (.op2 .add (.var 8) (.con (.int 1))) (.call 1 [.var 0, .var 1, .lst [.lst [], .op2 .mul (.slc (.var 7) (some (.var 8)) (some (.op2 .add (.var 8) (.con (.int 1))))) (.con (.int 2)), .lst [.var 4], .lst [.var 4, .op2 .ix (.var 7) (.var 8)]]])),
  .ret (.op2 .join (.con (.str "\n")) (.var 7))] [],
  .ite (.op2 .eq (.var 6) (.con (.int 3))) [.asg false 9 (.op2 .split (.var 2) (.con (.str " "))),
  .asg false 8 (.call 0 [.var 0, .var 1, .op1 .len (.var 9)]),
  .ret (.op2 .join (.con (.str " ")) (.op2 .add (.slc (.var 9) none (some (.var 8))) (.op1 .rev (.slc (.var 9) (some (.var 8)) none))))] [],
  .ret (.op2 .add (.op2 .add (.slc (.var 2) none (some (.var 5))) (.var 4)) (.slc (.var 2) (some (.op2 .add (.var 5) (.con (.int 1)))) none))]⟩
def f__law_spoiled : FnSem := run [f__law_draw, f__law_pick] b__law_spoiled
def b__law_parse_plant_or : Fn := ⟨1, 1, [.tryR (.call 0 [.var 0]) [("ParseError", (.str "ParseError"))]]⟩
def f__law_parse_plant_or : FnSem := run [f_parse_plant] b__law_parse_plant_or
def b__law_parse_state_or : Fn := ⟨2, 2, [.tryR (.call 0 [.var 0, .var 1]) [("InvalidPlant", (.str "InvalidPlant")), ("ParseError", (.str "ParseError"))]]⟩
def f__law_parse_state_or : FnSem := run [f_parse_state] b__law_parse_state_or
def b__law_refused_k29 : Fn := ⟨3, 5, [.asg false 3 (.lst [.con (.str ""), .slc (.var 1) none (some (.op1 .neg (.con (.int 1)))), .op2 .add (.var 1) (.con (.str "\n")), .op2 .add (.con (.str "\n")) (.var 1), .op2 .add (.con (.str " ")) (.var 1), .op2 .add (.var 1) (.var 1), .con .none, .tup []]),
  .asg false 3 (.op2 .add (.var 3) (.lst [.con (.int 5), .op1 (.repl " |" "|") (.var 1)])),
  .for (.n 4) .plain [.op2 .add (.var 3) (.lst [.con (.str "a:\n"), .con (.str "a: | |\n"), .con (.str "a |\n"), .con (.str "a: k k |\n")])] [.ite (.op2 .ne (.call 0 [.var 4]) (.con (.str "ParseError"))) [.ret (.con (.bool false))] []],
  .asg false 3 (.lst [.con (.str ""), .op2 .add (.var 2) (.con (.str " ")), .op2 .add (.con (.str " ")) (.var 2), .op2 .add (.var 2) (.con (.str "\n")), .op1 (.repl "=" ":") (.var 2), .con .none, .con (.int 5), .op2 .add (.var 2) (.con (.str " q=0"))]),
  .for (.n 4) .plain [.op2 .add (.var 3) (.lst [.op1 (.repl "=" "=1") (.var 2)])] [.ite (.op2 .ne (.call 1 [.var 0, .var 4]) (.con (.str "ParseError"))) [.ret (.con (.bool false))] []],
  .ret (.and (.op2 .eq (.call 1 [.tup [], .var 2]) (.con (.str "InvalidPlant"))) (.op2 .eq (.call 1 [.con (.int 1), .con (.int 1)]) (.con (.str "InvalidPlant"))))]⟩
def f__law_refused_k29 : FnSem := run [f__law_parse_plant_or, f__law_parse_state_or] b__law_refused_k29
end
end TK.P
namespace TK.KK
open PySem PySem.Spec PyProof.Rows L2 TK TK.P
def top (i : Nat) : Stmt := PySem.Challenge.pw_trappedkeys_k29_whole_there_and_back.main.body.getD i (.Pass ⟨0, 0, 0, 0⟩)
def exL : List Str := ["InvalidPlant", "InvalidState", "ParseError"]
noncomputable section
variable {P : Program} {w : World} {K : PySem.W.Frag} {mg : Str → Option Value} {base : Heap} {f : Addr} {fd : FuncData}
theorem w_is_integer {k : Nat} (hB : Blt mg) (hX : XC K mg exL) (F : FunD K "is_integer" "is_integer" (defArgs (top 6)) (defBody (top 6)) (defScope (top 6)) [] [] f fd) (gm : mg "is_integer" = some (.ref f))  : FnGood P w K mg base (k + 1) "is_integer" f_is_integer :=
  good_defX (fn := b_is_integer) ["candidate", "least", "most"] ["candidate", "least", "most"] hB hX F gm (by kernel_rfl) (fun _ _ _ _ _ _ us hl => match us, hl with | [_, _, _], _ => rfl) rfl rfl fun cdv A outer s H E c o =>
  (x_cons (x_ret (s_and (e_isi c rfl rfl (by kernel_rfl) (by kernel_rfl) rfl (e_varB rfl rfl rfl)) (s_and (s_not (e_B rfl (e_isi c rfl rfl (by kernel_rfl) (by kernel_rfl) rfl (e_varB rfl rfl rfl)))) (s_one (e_chain ok_le ok_le rfl rfl (e_varB rfl rfl rfl) (e_varB rfl rfl rfl) (e_varB rfl rfl rfl))))))
  x_nil)
theorem w_is_ascending {k : Nat} (hB : Blt mg) (hX : XC K mg exL) (F : FunD K "is_ascending" "is_ascending" (defArgs (top 7)) (defBody (top 7)) (defScope (top 7)) [] [] f fd) (gm : mg "is_ascending" = some (.ref f))  : FnGood P w K mg base (k + 1) "is_ascending" f_is_ascending :=
  good_defX (fn := b_is_ascending) ["row", "one", "other"] ["row"] hB hX F gm (by kernel_rfl) (fun _ _ _ _ _ _ us hl => match us, hl with | [_], _ => rfl) rfl rfl fun cdv A outer s H E c o =>
  (x_cons (x_ret (e_all c rfl rfl (e_B rfl (e_comp [("one", 1), ("other", 2)] c (by kernel_rfl) rfl (fun _ => rfl) (j_zip c rfl rfl rfl (s_mB (e_varB rfl rfl rfl)) (s_mB (e_B rfl (s_slc (e_varB rfl rfl rfl) (o_some (s_con rfl)) o_none)))) (fun _ _ _ _ _ => (j_tup c.blk rfl rfl (j_cons rfl (j_name c.blk rfl rfl rfl) (j_cons rfl (j_name c.blk rfl rfl rfl) g_nil)))) (fun _ _ _ _ _ => c_nil) (fun _ _ _ _ _ => (e_cmp (ok_lt c.blk.room) rfl (e_varB rfl rfl rfl) (e_varB rfl rfl rfl)))))))
  x_nil)
theorem w_is_word {k : Nat} (hB : Blt mg) (hX : XC K mg exL) (F : FunD K "is_word" "is_word" (defArgs (top 8)) (defBody (top 8)) (defScope (top 8)) [] [] f fd) (gm : mg "is_word" = some (.ref f))  : FnGood P w K mg base (k + 1) "is_word" f_is_word :=
  good_defX (fn := b_is_word) ["candidate", "sign"] ["candidate"] hB hX F gm (by kernel_rfl) (fun _ _ _ _ _ _ us hl => match us, hl with | [_], _ => rfl) rfl rfl fun cdv A outer s H E c o =>
  (x_cons (x_if (PW.pt (t_or (t_not (t_truth (e_B rfl (e_isi c rfl rfl (by kernel_rfl) (by kernel_rfl) rfl (e_varB rfl rfl rfl))) (fun _ => rfl))) (t_or1 (t_not (p_chain ok_le ok_le rfl rfl rfl (e_B rfl (s_con rfl)) (e_B rfl (e_len c rfl rfl (e_varB rfl rfl rfl))) (e_B rfl (s_con rfl))))))) (x_cons (x_ret (s_con rfl))
  x_nil) x_nil)
  (x_cons (x_ret (e_all c rfl rfl (e_B rfl (e_comp [("sign", 1)] c (by kernel_rfl) rfl (fun _ => rfl) (i_plain (s_mB (e_varB rfl rfl rfl))) (fun _ _ _ _ _ => (j_name c.blk rfl rfl rfl)) (fun _ _ _ _ _ => c_nil) (fun _ _ _ _ _ => (e_chain ok_le ok_le rfl rfl (e_B rfl (s_con (by kernel_rfl))) (e_varB rfl rfl rfl) (e_B rfl (s_con (by kernel_rfl)))))))))
  x_nil))
theorem w_are_keys {k : Nat} (hB : Blt mg) (hX : XC K mg exL) (F : FunD K "are_keys" "are_keys" (defArgs (top 9)) (defBody (top 9)) (defScope (top 9)) [] [] f fd) (gm : mg "are_keys" = some (.ref f)) (G0 : FnGood P w K mg base k "is_word" f_is_word) (G1 : FnGood P w K mg base k "is_ascending" f_is_ascending) : FnGood P w K mg base (k + 1) "are_keys" f_are_keys :=
  good_defX (fn := b_are_keys) ["candidate", "one"] ["candidate"] hB hX F gm (by kernel_rfl) (fun _ _ _ _ _ _ us hl => match us, hl with | [_], _ => rfl) rfl rfl fun cdv A outer s H E c o =>
  (x_cons (x_if (PW.pt (t_or (t_not (t_truth (e_B rfl (e_isi c rfl rfl (by kernel_rfl) (by kernel_rfl) rfl (e_varB rfl rfl rfl))) (fun _ => rfl))) (t_or (p_cmp (ok_gt c.room) rfl rfl (e_B rfl (e_len c rfl rfl (e_varB rfl rfl rfl))) (e_B rfl (s_con rfl))) (t_or1 (t_not (t_truth (e_B rfl (e_all c rfl rfl (e_B rfl (e_comp [("one", 1)] c (by kernel_rfl) rfl (fun _ => rfl) (i_plain (s_mB (e_varB rfl rfl rfl))) (fun _ _ _ _ _ => (j_name c.blk rfl rfl rfl)) (fun _ _ _ _ _ => c_nil) (fun _ _ _ _ _ => (e_call c.blk G0 rfl rfl rfl rfl (e_cons rfl (e_var rfl rfl rfl) s_nil))))))) (fun _ => rfl))))))) (x_cons (x_ret (s_con rfl))
  x_nil) x_nil)
  (x_cons (x_ret (e_call c G1 rfl rfl rfl rfl (e_cons rfl (e_var rfl rfl rfl) s_nil)))
  x_nil))
theorem w_is_lock {k : Nat} (hB : Blt mg) (hX : XC K mg exL) (F : FunD K "is_lock" "is_lock" (defArgs (top 10)) (defBody (top 10)) (defScope (top 10)) [] [] f fd) (gm : mg "is_lock" = some (.ref f)) (G0 : FnGood P w K mg base k "is_word" f_is_word) (G1 : FnGood P w K mg base k "are_keys" f_are_keys) : FnGood P w K mg base (k + 1) "is_lock" f_is_lock :=
  good_defX (fn := b_is_lock) ["candidate"] ["candidate"] hB hX F gm (by kernel_rfl) (fun _ _ _ _ _ _ us hl => match us, hl with | [_], _ => rfl) rfl rfl fun cdv A outer s H E c o =>
  (x_cons (x_if (PW.pt (t_or (t_not (t_truth (e_B rfl (e_isi c rfl rfl (by kernel_rfl) (by kernel_rfl) rfl (e_varB rfl rfl rfl))) (fun _ => rfl))) (t_or (p_cmp (ok_ne c.room) rfl rfl (e_B rfl (e_len c rfl rfl (e_varB rfl rfl rfl))) (e_B rfl (s_con rfl))) (t_or1 (t_not (t_truth (e_B rfl (e_call c G0 rfl rfl rfl rfl (e_cons rfl (e_ix c (fun _ _ => rfl) (e_varB rfl rfl rfl) (e_B rfl (s_con rfl))) s_nil))) (fun _ => rfl))))))) (x_cons (x_ret (s_con rfl))
  x_nil) x_nil)
  (x_cons (x_ret (s_and (e_call c G1 rfl rfl rfl rfl (e_cons rfl (e_ix c (fun _ _ => rfl) (e_varB rfl rfl rfl) (e_B rfl (s_con rfl))) s_nil)) (s_one (e_call c G1 rfl rfl rfl rfl (e_cons rfl (e_ix c (fun _ _ => rfl) (e_varB rfl rfl rfl) (e_B rfl (s_con rfl))) s_nil)))))
  x_nil))
theorem w_is_plant {k : Nat} (hB : Blt mg) (hX : XC K mg exL) (F : FunD K "is_plant" "is_plant" (defArgs (top 11)) (defBody (top 11)) (defScope (top 11)) [] [] f fd) (gm : mg "is_plant" = some (.ref f)) (G0 : FnGood P w K mg base k "is_lock" f_is_lock) (G1 : FnGood P w K mg base k "is_ascending" f_is_ascending) : FnGood P w K mg base (k + 1) "is_plant" f_is_plant :=
  good_defX (fn := b_is_plant) ["candidate", "one"] ["candidate"] hB hX F gm (by kernel_rfl) (fun _ _ _ _ _ _ us hl => match us, hl with | [_], _ => rfl) rfl rfl fun cdv A outer s H E c o =>
  (x_cons (x_if (PW.pt (t_or (t_not (t_truth (e_B rfl (e_isi c rfl rfl (by kernel_rfl) (by kernel_rfl) rfl (e_varB rfl rfl rfl))) (fun _ => rfl))) (t_or1 (t_not (p_chain ok_le ok_le rfl rfl rfl (e_B rfl (s_con rfl)) (e_B rfl (e_len c rfl rfl (e_varB rfl rfl rfl))) (e_B rfl (s_con rfl))))))) (x_cons (x_ret (s_con rfl))
  x_nil) x_nil)
  (x_cons (x_ret (s_and (e_all c rfl rfl (e_B rfl (e_comp [("one", 1)] c (by kernel_rfl) rfl (fun _ => rfl) (i_plain (s_mB (e_varB rfl rfl rfl))) (fun _ _ _ _ _ => (j_name c.blk rfl rfl rfl)) (fun _ _ _ _ _ => c_nil) (fun _ _ _ _ _ => (e_call c.blk G0 rfl rfl rfl rfl (e_cons rfl (e_var rfl rfl rfl) s_nil)))))) (s_one (e_call c G1 rfl rfl rfl rfl (e_cons rfl (e_comp [("one", 1)] c (by kernel_rfl) rfl (fun _ => rfl) (i_plain (s_mB (e_varB rfl rfl rfl))) (fun _ _ _ _ _ => (j_name c.blk rfl rfl rfl)) (fun _ _ _ _ _ => c_nil) (fun _ _ _ _ _ => (e_ix c.blk (fun _ _ => rfl) (e_varB rfl rfl rfl) (e_B rfl (s_con rfl))))) s_nil)))))
  x_nil))
theorem w_require_plant {k : Nat} (hB : Blt mg) (hX : XC K mg exL) (F : FunD K "require_plant" "require_plant" (defArgs (top 12)) (defBody (top 12)) (defScope (top 12)) [] [] f fd) (gm : mg "require_plant" = some (.ref f)) (G0 : FnGood P w K mg base k "is_plant" f_is_plant) : FnGood P w K mg base (k + 1) "require_plant" f_require_plant :=
  good_defX (fn := b_require_plant) ["plant"] ["plant"] hB hX F gm (by kernel_rfl) (fun _ _ _ _ _ _ us hl => match us, hl with | [_], _ => rfl) rfl rfl fun cdv A outer s H E c o =>
  (x_cons (x_if (t_not (t_truth (e_B rfl (e_call c G0 rfl rfl rfl rfl (e_cons rfl (e_var rfl rfl rfl) s_nil))) (fun _ => rfl))) (x_cons (y_raise c o (by kernel_rfl) rfl rfl)
  x_nil) x_nil)
  x_nil)
theorem w_held_by {k : Nat} (hB : Blt mg) (hX : XC K mg exL) (F : FunD K "held_by" "held_by" (defArgs (top 13)) (defBody (top 13)) (defScope (top 13)) [] [] f fd) (gm : mg "held_by" = some (.ref f))  : FnGood P w K mg base (k + 1) "held_by" f_held_by :=
  good_defX (fn := b_held_by) ["lock", "place"] ["lock", "place"] hB hX F gm (by kernel_rfl) (fun _ _ _ _ _ _ us hl => match us, hl with | [_, _], _ => rfl) rfl rfl fun cdv A outer s H E c o =>
  (x_cons (x_ret (e_ix c (fun _ _ => rfl) (e_varB rfl rfl rfl) (e_B rfl (s_bin ok_add (e_B rfl (s_con rfl)) (e_varB rfl rfl rfl)))))
  x_nil)
theorem w_are_places {k : Nat} (hB : Blt mg) (hX : XC K mg exL) (F : FunD K "are_places" "are_places" (defArgs (top 14)) (defBody (top 14)) (defScope (top 14)) [] [] f fd) (gm : mg "are_places" = some (.ref f)) (G0 : FnGood P w K mg base k "is_integer" f_is_integer) : FnGood P w K mg base (k + 1) "are_places" f_are_places :=
  good_defX (fn := b_are_places) ["plant", "candidate", "place"] ["plant", "candidate"] hB hX F gm (by kernel_rfl) (fun _ _ _ _ _ _ us hl => match us, hl with | [_, _], _ => rfl) rfl rfl fun cdv A outer s H E c o =>
  (x_cons (x_if (PW.pt (t_or (t_not (t_truth (e_B rfl (e_isi c rfl rfl (by kernel_rfl) (by kernel_rfl) rfl (e_varB rfl rfl rfl))) (fun _ => rfl))) (t_or1 (p_cmp (ok_ne c.room) rfl rfl (e_B rfl (e_len c rfl rfl (e_varB rfl rfl rfl))) (e_B rfl (e_len c rfl rfl (e_varB rfl rfl rfl))))))) (x_cons (x_ret (s_con rfl))
  x_nil) x_nil)
  (x_cons (x_ret (e_all c rfl rfl (e_B rfl (e_comp [("place", 2)] c (by kernel_rfl) rfl (fun _ => rfl) (i_plain (s_mB (e_varB rfl rfl rfl))) (fun _ _ _ _ _ => (j_name c.blk rfl rfl rfl)) (fun _ _ _ _ _ => c_nil) (fun _ _ _ _ _ => (e_call c.blk G0 rfl rfl rfl rfl (e_cons rfl (e_var rfl rfl rfl) (e_cons rfl (s_con rfl) (e_cons rfl (s_con rfl) s_nil)))))))))
  x_nil))
theorem w_fits {k : Nat} (hB : Blt mg) (hX : XC K mg exL) (F : FunD K "fits" "fits" (defArgs (top 15)) (defBody (top 15)) (defScope (top 15)) [] [] f fd) (gm : mg "fits" = some (.ref f)) (G0 : FnGood P w K mg base k "held_by" f_held_by) : FnGood P w K mg base (k + 1) "fits" f_fits :=
  good_defX (fn := b_fits) ["plant", "places", "held", "lock", "place"] ["plant", "places"] hB hX F gm (by kernel_rfl) (fun _ _ _ _ _ _ us hl => match us, hl with | [_, _], _ => rfl) rfl rfl fun cdv A outer s H E c o =>
  (x_cons (y_asg true c rfl rfl rfl rfl (f_lst s_nil))
  (x_cons (y_for c o.own (fun _ => rfl) (j_zip c rfl rfl rfl (s_mV (e_var rfl rfl rfl)) (s_mV (e_var rfl rfl rfl))) (j_tup c rfl rfl (j_cons rfl (j_name c rfl rfl rfl) (j_cons rfl (j_name c rfl rfl rfl) g_nil))) (x_cons (y_extend rfl rfl rfl rfl rfl rfl (e_call c G0 rfl rfl rfl rfl (e_cons rfl (e_var rfl rfl rfl) (e_cons rfl (e_var rfl rfl rfl) s_nil))))
  x_nil))
  (x_cons (x_ret (e_cmp (ok_eq c.room) rfl (e_B rfl (e_setLen c rfl rfl rfl (e_varB rfl rfl rfl))) (e_B rfl (e_len c rfl rfl (e_varB rfl rfl rfl)))))
  x_nil)))
theorem w_is_valid_state {k : Nat} (hB : Blt mg) (hX : XC K mg exL) (F : FunD K "is_valid_state" "is_valid_state" (defArgs (top 16)) (defBody (top 16)) (defScope (top 16)) [] [] f fd) (gm : mg "is_valid_state" = some (.ref f)) (G0 : FnGood P w K mg base k "are_places" f_are_places) (G1 : FnGood P w K mg base k "fits" f_fits) : FnGood P w K mg base (k + 1) "is_valid_state" f_is_valid_state :=
  good_defX (fn := b_is_valid_state) ["plant", "candidate"] ["plant", "candidate"] hB hX F gm (by kernel_rfl) (fun _ _ _ _ _ _ us hl => match us, hl with | [_, _], _ => rfl) rfl rfl fun cdv A outer s H E c o =>
  (x_cons (x_ret (s_and (e_call c G0 rfl rfl rfl rfl (e_cons rfl (e_var rfl rfl rfl) (e_cons rfl (e_var rfl rfl rfl) s_nil))) (s_one (e_call c G1 rfl rfl rfl rfl (e_cons rfl (e_var rfl rfl rfl) (e_cons rfl (e_var rfl rfl rfl) s_nil))))))
  x_nil)
theorem w_require_state {k : Nat} (hB : Blt mg) (hX : XC K mg exL) (F : FunD K "require_state" "require_state" (defArgs (top 17)) (defBody (top 17)) (defScope (top 17)) [] [] f fd) (gm : mg "require_state" = some (.ref f)) (G0 : FnGood P w K mg base k "require_plant" f_require_plant) (G1 : FnGood P w K mg base k "is_valid_state" f_is_valid_state) : FnGood P w K mg base (k + 1) "require_state" f_require_state :=
  good_defX (fn := b_require_state) ["plant", "state"] ["plant", "state"] hB hX F gm (by kernel_rfl) (fun _ _ _ _ _ _ us hl => match us, hl with | [_, _], _ => rfl) rfl rfl fun cdv A outer s H E c o =>
  (x_cons (x_exp (e_call c G0 rfl rfl rfl rfl (e_cons rfl (e_var rfl rfl rfl) s_nil)) rfl)
  (x_cons (x_if (t_not (t_truth (e_B rfl (e_call c G1 rfl rfl rfl rfl (e_cons rfl (e_var rfl rfl rfl) (e_cons rfl (e_var rfl rfl rfl) s_nil)))) (fun _ => rfl))) (x_cons (y_raise c o (by kernel_rfl) rfl rfl)
  x_nil) x_nil)
  x_nil))
theorem w_with_spaces {k : Nat} (hB : Blt mg) (hX : XC K mg exL) (F : FunD K "with_spaces" "with_spaces" (defArgs (top 19)) (defBody (top 19)) (defScope (top 19)) [] [] f fd) (gm : mg "with_spaces" = some (.ref f))  : FnGood P w K mg base (k + 1) "with_spaces" f_with_spaces :=
  good_defX (fn := b_with_spaces) ["keys", "key"] ["keys"] hB hX F gm (by kernel_rfl) (fun _ _ _ _ _ _ us hl => match us, hl with | [_], _ => rfl) rfl rfl fun cdv A outer s H E c o =>
  (x_cons (x_ret (e_join c (by kernel_rfl) rfl rfl rfl (e_B rfl (e_comp [("key", 1)] c (by kernel_rfl) rfl (fun _ => rfl) (i_plain (s_mB (e_varB rfl rfl rfl))) (fun _ _ _ _ _ => (j_name c.blk rfl rfl rfl)) (fun _ _ _ _ _ => c_nil) (fun _ _ _ _ _ => (s_bin ok_add (e_B rfl (s_con (by kernel_rfl))) (e_varB rfl rfl rfl)))))))
  x_nil)
theorem w_plant_text {k : Nat} (hB : Blt mg) (hX : XC K mg exL) (F : FunD K "plant_text" "plant_text" (defArgs (top 20)) (defBody (top 20)) (defScope (top 20)) [] [] f fd) (gm : mg "plant_text" = some (.ref f)) (G0 : FnGood P w K mg base k "with_spaces" f_with_spaces) : FnGood P w K mg base (k + 1) "plant_text" f_plant_text :=
  good_defX (fn := b_plant_text) ["plant", "lines", "name", "first", "second", "line"] ["plant"] hB hX F gm (by kernel_rfl) (fun _ _ _ _ _ _ us hl => match us, hl with | [_], _ => rfl) rfl rfl fun cdv A outer s H E c o =>
  (x_cons (y_asgLc false [("name", 2), ("first", 3), ("second", 4)] c rfl rfl rfl (by kernel_rfl) rfl (fun _ => rfl) (i_plain (s_mB (e_varB rfl rfl rfl))) (fun _ _ _ _ _ => (j_tup c.blk rfl rfl (j_cons rfl (j_name c.blk rfl rfl rfl) (j_cons rfl (j_name c.blk rfl rfl rfl) (j_cons rfl (j_name c.blk rfl rfl rfl) g_nil))))) (fun _ _ _ _ _ => c_nil) (fun _ _ _ _ _ => (s_bin ok_add (e_B rfl (s_bin ok_add (e_B rfl (s_bin ok_add (e_B rfl (s_bin ok_add (e_varB rfl rfl rfl) (e_B rfl (s_con (by kernel_rfl))))) (e_B rfl (e_call c.blk G0 rfl rfl rfl rfl (e_cons rfl (e_var rfl rfl rfl) s_nil))))) (e_B rfl (s_con (by kernel_rfl))))) (e_B rfl (e_call c.blk G0 rfl rfl rfl rfl (e_cons rfl (e_var rfl rfl rfl) s_nil))))))
  (x_cons (x_ret (e_join c (by kernel_rfl) rfl rfl rfl (e_B rfl (e_comp [("line", 5)] c (by kernel_rfl) rfl (fun _ => rfl) (i_plain (s_mB (e_varB rfl rfl rfl))) (fun _ _ _ _ _ => (j_name c.blk rfl rfl rfl)) (fun _ _ _ _ _ => c_nil) (fun _ _ _ _ _ => (s_bin ok_add (e_varB rfl rfl rfl) (e_B rfl (s_con (by kernel_rfl)))))))))
  x_nil))
theorem w_format_plant {k : Nat} (hB : Blt mg) (hX : XC K mg exL) (F : FunD K "format_plant" "format_plant" (defArgs (top 21)) (defBody (top 21)) (defScope (top 21)) [] [] f fd) (gm : mg "format_plant" = some (.ref f)) (G0 : FnGood P w K mg base k "require_plant" f_require_plant) (G1 : FnGood P w K mg base k "plant_text" f_plant_text) : FnGood P w K mg base (k + 1) "format_plant" f_format_plant :=
  good_defX (fn := b_format_plant) ["plant"] ["plant"] hB hX F gm (by kernel_rfl) (fun _ _ _ _ _ _ us hl => match us, hl with | [_], _ => rfl) rfl rfl fun cdv A outer s H E c o =>
  (x_cons (x_exp (e_call c G0 rfl rfl rfl rfl (e_cons rfl (e_var rfl rfl rfl) s_nil)) rfl)
  (x_cons (x_ret (e_call c G1 rfl rfl rfl rfl (e_cons rfl (e_var rfl rfl rfl) s_nil)))
  x_nil))
theorem w_parse_lock {k : Nat} (hB : Blt mg) (hX : XC K mg exL) (F : FunD K "parse_lock" "parse_lock" (defArgs (top 22)) (defBody (top 22)) (defScope (top 22)) [] [] f fd) (gm : mg "parse_lock" = some (.ref f))  : FnGood P w K mg base (k + 1) "parse_lock" f_parse_lock :=
  good_defX (fn := b_parse_lock) ["line", "words", "spot"] ["line"] hB hX F gm (by kernel_rfl) (fun _ _ _ _ _ _ us hl => match us, hl with | [_], _ => rfl) rfl rfl fun cdv A outer s H E c o =>
  (x_cons (y_asg false c rfl rfl rfl rfl (e_split c rfl rfl (e_varB rfl rfl rfl)))
  (x_cons (x_if (PW.pt (t_or (p_cmp (ok_ne c.room) rfl rfl (e_B rfl (e_count c (by kernel_rfl) rfl rfl (e_varB rfl rfl rfl))) (e_B rfl (s_con rfl))) (t_or1 (t_not (t_truth (e_B rfl (e_endsw c rfl rfl (e_B rfl (e_ix c (fun _ _ => rfl) (e_varB rfl rfl rfl) (e_B rfl (s_con rfl)))))) (fun _ => rfl)))))) (x_cons (y_raise c o (by kernel_rfl) rfl rfl)
  x_nil) x_nil)
  (x_cons (y_asg false c rfl rfl rfl rfl (e_index c rfl rfl rfl (e_varB rfl rfl rfl) (e_B rfl (s_con (by kernel_rfl)))))
  (x_cons (x_ret (s_tup (e_cons rfl (s_slc (e_B rfl (e_ix c (fun _ _ => rfl) (e_varB rfl rfl rfl) (e_B rfl (s_con rfl)))) o_none (o_some (s_neg (e_B rfl (s_con rfl))))) (e_cons rfl (e_tuple c rfl rfl (e_B rfl (s_slc (e_varB rfl rfl rfl) (o_some (s_con rfl)) (o_some (e_var rfl rfl rfl))))) (e_cons rfl (e_tuple c rfl rfl (e_B rfl (s_slc (e_varB rfl rfl rfl) (o_some (s_bin ok_add (e_varB rfl rfl rfl) (e_B rfl (s_con rfl)))) o_none))) s_nil)))))
  x_nil))))
theorem w_parse_plant {k : Nat} (hB : Blt mg) (hX : XC K mg exL) (F : FunD K "parse_plant" "parse_plant" (defArgs (top 23)) (defBody (top 23)) (defScope (top 23)) [] [] f fd) (gm : mg "parse_plant" = some (.ref f)) (G0 : FnGood P w K mg base k "parse_lock" f_parse_lock) (G1 : FnGood P w K mg base k "is_plant" f_is_plant) (G2 : FnGood P w K mg base k "plant_text" f_plant_text) : FnGood P w K mg base (k + 1) "parse_plant" f_parse_plant :=
  good_defX (fn := b_parse_plant) ["text", "plant", "line"] ["text"] hB hX F gm (by kernel_rfl) (fun _ _ _ _ _ _ us hl => match us, hl with | [_], _ => rfl) rfl rfl fun cdv A outer s H E c o =>
  (x_cons (x_if (t_not (t_truth (e_B rfl (e_isi c rfl rfl (by kernel_rfl) (by kernel_rfl) rfl (e_varB rfl rfl rfl))) (fun _ => rfl))) (x_cons (y_raise c o (by kernel_rfl) rfl rfl)
  x_nil) x_nil)
  (x_cons (y_asg false c rfl rfl rfl rfl (e_tuple c rfl rfl (e_B rfl (e_compX [("line", 2)] c o (by kernel_rfl) rfl (fun _ => rfl) (i_plain (s_mB (e_B rfl (s_slc (e_B rfl (e_split c rfl rfl (e_varB rfl rfl rfl))) o_none (o_some (s_neg (e_B rfl (s_con rfl)))))))) (fun _ _ _ _ _ => (j_name c.blk rfl rfl rfl)) (fun _ _ _ _ _ => c_nil) (fun _ _ _ _ _ _ c1 => (e_call c1 G0 rfl rfl rfl rfl (e_cons rfl (e_var rfl rfl rfl) s_nil)))))))
  (x_cons (x_if (PW.pt (t_or (t_not (t_truth (e_B rfl (e_call c G1 rfl rfl rfl rfl (e_cons rfl (e_var rfl rfl rfl) s_nil))) (fun _ => rfl))) (t_or1 (p_cmp (ok_ne c.room) rfl rfl (e_B rfl (e_call c G2 rfl rfl rfl rfl (e_cons rfl (e_var rfl rfl rfl) s_nil))) (e_varB rfl rfl rfl))))) (x_cons (y_raise c o (by kernel_rfl) rfl rfl)
  x_nil) x_nil)
  (x_cons (x_ret (e_var rfl rfl rfl))
  x_nil))))
theorem w_state_text {k : Nat} (hB : Blt mg) (hX : XC K mg exL) (F : FunD K "state_text" "state_text" (defArgs (top 24)) (defBody (top 24)) (defScope (top 24)) [] [] f fd) (gm : mg "state_text" = some (.ref f))  : FnGood P w K mg base (k + 1) "state_text" f_state_text :=
  good_defX (fn := b_state_text) ["plant", "state", "lock", "place"] ["plant", "state"] hB hX F gm (by kernel_rfl) (fun _ _ _ _ _ _ us hl => match us, hl with | [_, _], _ => rfl) rfl rfl fun cdv A outer s H E c o =>
  (x_cons (x_ret (e_join c (by kernel_rfl) rfl rfl rfl (e_B rfl (e_comp [("lock", 2), ("place", 3)] c (by kernel_rfl) rfl (fun _ => rfl) (j_zip c rfl rfl rfl (s_mB (e_varB rfl rfl rfl)) (s_mB (e_varB rfl rfl rfl))) (fun _ _ _ _ _ => (j_tup c.blk rfl rfl (j_cons rfl (j_name c.blk rfl rfl rfl) (j_cons rfl (j_name c.blk rfl rfl rfl) g_nil)))) (fun _ _ _ _ _ => c_nil) (fun _ _ _ _ _ => (s_bin ok_add (e_B rfl (s_bin ok_add (e_B rfl (e_ix c.blk (fun _ _ => rfl) (e_varB rfl rfl rfl) (e_B rfl (s_con rfl)))) (e_B rfl (s_con (by kernel_rfl))))) (e_B rfl (e_str c.blk rfl rfl (e_varB rfl rfl rfl)))))))))
  x_nil)
theorem w_format_state {k : Nat} (hB : Blt mg) (hX : XC K mg exL) (F : FunD K "format_state" "format_state" (defArgs (top 25)) (defBody (top 25)) (defScope (top 25)) [] [] f fd) (gm : mg "format_state" = some (.ref f)) (G0 : FnGood P w K mg base k "require_state" f_require_state) (G1 : FnGood P w K mg base k "state_text" f_state_text) : FnGood P w K mg base (k + 1) "format_state" f_format_state :=
  good_defX (fn := b_format_state) ["plant", "state"] ["plant", "state"] hB hX F gm (by kernel_rfl) (fun _ _ _ _ _ _ us hl => match us, hl with | [_, _], _ => rfl) rfl rfl fun cdv A outer s H E c o =>
  (x_cons (x_exp (e_call c G0 rfl rfl rfl rfl (e_cons rfl (e_var rfl rfl rfl) (e_cons rfl (e_var rfl rfl rfl) s_nil))) rfl)
  (x_cons (x_ret (e_call c G1 rfl rfl rfl rfl (e_cons rfl (e_var rfl rfl rfl) (e_cons rfl (e_var rfl rfl rfl) s_nil))))
  x_nil))
theorem w_parse_state {k : Nat} (hB : Blt mg) (hX : XC K mg exL) (F : FunD K "parse_state" "parse_state" (defArgs (top 26)) (defBody (top 26)) (defScope (top 26)) [] [] f fd) (gm : mg "parse_state" = some (.ref f)) (G0 : FnGood P w K mg base k "require_plant" f_require_plant) (G1 : FnGood P w K mg base k "is_valid_state" f_is_valid_state) (G2 : FnGood P w K mg base k "state_text" f_state_text) : FnGood P w K mg base (k + 1) "parse_state" f_parse_state :=
  good_defX (fn := b_parse_state) ["plant", "text", "state", "word"] ["plant", "text"] hB hX F gm (by kernel_rfl) (fun _ _ _ _ _ _ us hl => match us, hl with | [_, _], _ => rfl) rfl rfl fun cdv A outer s H E c o =>
  (x_cons (x_exp (e_call c G0 rfl rfl rfl rfl (e_cons rfl (e_var rfl rfl rfl) s_nil)) rfl)
  (x_cons (x_if (t_not (t_truth (e_B rfl (e_isi c rfl rfl (by kernel_rfl) (by kernel_rfl) rfl (e_varB rfl rfl rfl))) (fun _ => rfl))) (x_cons (y_raise c o (by kernel_rfl) rfl rfl)
  x_nil) x_nil)
  (x_cons (y_asg false c rfl rfl rfl rfl (e_tuple c rfl rfl (e_B rfl (e_comp [("word", 3)] c (by kernel_rfl) rfl (fun _ => rfl) (i_plain (s_mB (e_B rfl (e_split c rfl rfl (e_varB rfl rfl rfl))))) (fun _ _ _ _ _ => (j_name c.blk rfl rfl rfl)) (fun _ _ _ _ _ => c_nil) (fun _ _ _ _ _ => (e_int c.blk rfl rfl (e_B rfl (e_endsw c.blk rfl rfl (e_varB rfl rfl rfl)))))))))
  (x_cons (x_if (PW.pt (t_or (t_not (t_truth (e_B rfl (e_call c G1 rfl rfl rfl rfl (e_cons rfl (e_var rfl rfl rfl) (e_cons rfl (e_var rfl rfl rfl) s_nil)))) (fun _ => rfl))) (t_or1 (p_cmp (ok_ne c.room) rfl rfl (e_B rfl (e_call c G2 rfl rfl rfl rfl (e_cons rfl (e_var rfl rfl rfl) (e_cons rfl (e_var rfl rfl rfl) s_nil)))) (e_varB rfl rfl rfl))))) (x_cons (y_raise c o (by kernel_rfl) rfl rfl)
  x_nil) x_nil)
  (x_cons (x_ret (e_var rfl rfl rfl))
  x_nil)))))
theorem w__law_same (n : Nat) {k : Nat} (hB : Blt mg) (hX : XC K mg exL) (F : FunD K "_law_same" "_law_same" (defArgs (top 28)) (defBody (top 28)) (defScope (top 28)) [] [] f fd) (gm : mg "_law_same" = some (.ref f)) (G0 : FnGood P w K mg base k "_law_same" (f__law_same n)) : FnGood P w K mg base (k + 1) "_law_same" (f__law_same (n + 1)) :=
  good_defX (fn := b__law_same) ["got", "due", "one", "other"] ["got", "due"] hB hX F gm (by kernel_rfl) (fun _ _ _ _ _ _ us hl => match us, hl with | [_, _], _ => rfl) rfl rfl fun cdv A outer s H E c o =>
  (x_cons (x_if (t_isN (e_varB rfl rfl rfl)) (x_cons (x_ret (s_isN (e_varB rfl rfl rfl)))
  x_nil) x_nil)
  (x_cons (x_if (t_truth (e_B rfl (e_isi c rfl rfl (by kernel_rfl) (by kernel_rfl) rfl (e_varB rfl rfl rfl))) (fun _ => rfl)) (x_cons (x_ret (s_and (e_isi c rfl rfl (by kernel_rfl) (by kernel_rfl) rfl (e_varB rfl rfl rfl)) (s_one (e_cmp (ok_eq c.room) rfl (e_varB rfl rfl rfl) (e_varB rfl rfl rfl)))))
  x_nil) x_nil)
  (x_cons (x_if (t_truth (e_B rfl (e_isi c rfl rfl (by kernel_rfl) (by kernel_rfl) rfl (e_varB rfl rfl rfl))) (fun _ => rfl)) (x_cons (x_if (PW.pt (t_or (t_not (t_truth (e_B rfl (e_isi c rfl rfl (by kernel_rfl) (by kernel_rfl) rfl (e_varB rfl rfl rfl))) (fun _ => rfl))) (t_or1 (p_cmp (ok_ne c.room) rfl rfl (e_B rfl (e_len c rfl rfl (e_varB rfl rfl rfl))) (e_B rfl (e_len c rfl rfl (e_varB rfl rfl rfl))))))) (x_cons (x_ret (s_con rfl))
  x_nil) x_nil)
  (x_cons (x_ret (e_all c rfl rfl (e_B rfl (e_comp [("one", 2), ("other", 3)] c (by kernel_rfl) rfl (fun _ => rfl) (j_zip c rfl rfl rfl (s_mB (e_varB rfl rfl rfl)) (s_mB (e_varB rfl rfl rfl))) (fun _ _ _ _ _ => (j_tup c.blk rfl rfl (j_cons rfl (j_name c.blk rfl rfl rfl) (j_cons rfl (j_name c.blk rfl rfl rfl) g_nil)))) (fun _ _ _ _ _ => c_nil) (fun _ _ _ _ _ => (e_call c.blk G0 rfl rfl rfl rfl (e_cons rfl (e_var rfl rfl rfl) (e_cons rfl (e_var rfl rfl rfl) s_nil))))))))
  x_nil)) x_nil)
  (x_cons (x_if (t_truth (e_B rfl (e_isi c rfl rfl (by kernel_rfl) (by kernel_rfl) rfl (e_varB rfl rfl rfl))) (fun _ => rfl)) (x_cons (x_ret (s_and (e_isi c rfl rfl (by kernel_rfl) (by kernel_rfl) rfl (e_varB rfl rfl rfl)) (s_one (e_cmp (ok_eq c.room) rfl (e_varB rfl rfl rfl) (e_varB rfl rfl rfl)))))
  x_nil) x_nil)
  (x_cons (x_ret (s_and (e_isi c rfl rfl (by kernel_rfl) (by kernel_rfl) rfl (e_varB rfl rfl rfl)) (s_and (s_not (e_B rfl (e_isi c rfl rfl (by kernel_rfl) (by kernel_rfl) rfl (e_varB rfl rfl rfl)))) (s_one (e_cmp (ok_eq c.room) rfl (e_varB rfl rfl rfl) (e_varB rfl rfl rfl))))))
  x_nil)))))
theorem w__law_draw {k : Nat} (hB : Blt mg) (hX : XC K mg exL) (F : FunD K "_law_draw" "_law_draw" (defArgs (top 29)) (defBody (top 29)) (defScope (top 29)) [] [] f fd) (gm : mg "_law_draw" = some (.ref f))  : FnGood P w K mg base (k + 1) "_law_draw" f__law_draw :=
  good_defX (fn := b__law_draw) ["script", "state", "many", "k", "cell", "digits", "number", "more"] ["script", "state", "many"] hB hX F gm (by kernel_rfl) (fun _ _ _ _ _ _ us hl => match us, hl with | [_, _, _], _ => rfl) rfl rfl fun cdv A outer s H E c o =>
  (x_cons (x_if (t_not (p_tok rfl rfl rfl (fun _ => rfl))) (x_cons (x_tokApp rfl rfl rfl rfl rfl rfl (e_max c rfl rfl (e_B rfl (s_bin ok_add (e_B rfl (e_comp [("cell", 4)] c (by kernel_rfl) rfl (fun _ => rfl) (i_plain (s_mB (e_varB rfl rfl rfl))) (fun _ _ _ _ _ => (j_name c.blk rfl rfl rfl)) (fun _ _ _ _ _ => c_nil) (fun _ _ _ _ _ => (e_abs c.blk rfl rfl (e_varB rfl rfl rfl))))) (e_B rfl (s_lst (e_cons rfl (s_con rfl) s_nil)))))))
  x_nil) x_nil)
  (x_cons (x_tokApp rfl rfl rfl rfl rfl rfl (s_con rfl))
  (x_cons (y_asg false c rfl rfl rfl rfl (e_tLen c rfl rfl rfl rfl))
  (x_cons (y_asg false c rfl rfl rfl rfl (s_ite (p_scr rfl rfl rfl (fun _ => rfl)) (e_cIx (fun _ _ => rfl) rfl rfl rfl (e_B rfl (s_bin ok_mod (e_varB rfl rfl rfl) (e_B rfl (e_cLen c rfl rfl rfl rfl))))) (s_con rfl)))
  (x_cons (y_asg false c rfl rfl rfl rfl (s_bin ok_mod (e_B rfl (e_tIx0 rfl rfl rfl)) (e_B rfl (s_con rfl))))
  (x_cons (x_tokSet rfl rfl rfl rfl rfl (s_bin ok_fdiv (e_B rfl (e_tIx0 rfl rfl rfl)) (e_B rfl (s_con rfl))))
  (x_cons (y_asg false c rfl rfl rfl rfl (s_bin ok_mod (e_B rfl (s_bin ok_add (e_B rfl (s_bin ok_add (e_varB rfl rfl rfl) (e_B rfl (s_bin ok_mul (e_B rfl (s_con rfl)) (e_varB rfl rfl rfl))))) (e_B rfl (s_bin ok_mul (e_B rfl (s_con rfl)) (e_varB rfl rfl rfl))))) (e_B rfl (s_con rfl))))
  (x_cons (y_asg false c rfl rfl rfl rfl (s_bin ok_mod (e_B rfl (s_bin ok_mul (e_B rfl (s_bin ok_mod (e_B rfl (s_bin ok_mul (e_varB rfl rfl rfl) (e_varB rfl rfl rfl))) (e_B rfl (s_con rfl)))) (e_B rfl (s_con rfl)))) (e_B rfl (s_con rfl))))
  (x_cons (y_asg false c rfl rfl rfl rfl (s_bin ok_mod (e_B rfl (s_bin ok_mul (e_B rfl (s_bin ok_mod (e_B rfl (s_bin ok_mul (e_varB rfl rfl rfl) (e_varB rfl rfl rfl))) (e_B rfl (s_con rfl)))) (e_B rfl (s_con rfl)))) (e_B rfl (s_con rfl))))
  (x_cons (x_ret (s_bin ok_mod (e_B rfl (s_bin ok_add (e_B rfl (s_bin ok_mul (e_B rfl (s_bin ok_fdiv (e_varB rfl rfl rfl) (e_B rfl (s_con rfl)))) (e_B rfl (s_con rfl)))) (e_B rfl (s_bin ok_fdiv (e_varB rfl rfl rfl) (e_B rfl (s_con rfl)))))) (e_varB rfl rfl rfl)))
  x_nil))))))))))
theorem w__law_pick {k : Nat} (hB : Blt mg) (hX : XC K mg exL) (F : FunD K "_law_pick" "_law_pick" (defArgs (top 30)) (defBody (top 30)) (defScope (top 30)) [] [] f fd) (gm : mg "_law_pick" = some (.ref f)) (G0 : FnGood P w K mg base k "_law_draw" f__law_draw) : FnGood P w K mg base (k + 1) "_law_pick" f__law_pick :=
  good_defX (fn := b__law_pick) ["script", "state", "some"] ["script", "state", "some"] hB hX F gm (by kernel_rfl) (fun _ _ _ _ _ _ us hl => match us, hl with | [_, _, _], _ => rfl) rfl rfl fun cdv A outer s H E c o =>
  (x_cons (x_ret (e_ix c (fun _ _ => rfl) (e_varB rfl rfl rfl) (e_B rfl (e_call c G0 rfl rfl rfl rfl (e_cons rfl (e_var rfl rfl rfl) (e_cons rfl (e_var rfl rfl rfl) (e_cons rfl (e_len c rfl rfl (e_varB rfl rfl rfl)) s_nil)))))))
  x_nil)
theorem w__law_shuffled {k : Nat} (hB : Blt mg) (hX : XC K mg exL) (F : FunD K "_law_shuffled" "_law_shuffled" (defArgs (top 31)) (defBody (top 31)) (defScope (top 31)) [] [] f fd) (gm : mg "_law_shuffled" = some (.ref f)) (G0 : FnGood P w K mg base k "_law_draw" f__law_draw) : FnGood P w K mg base (k + 1) "_law_shuffled" f__law_shuffled :=
  good_defX (fn := b__law_shuffled) ["script", "state", "things", "rest", "found"] ["script", "state", "things"] hB hX F gm (by kernel_rfl) (fun _ _ _ _ _ _ us hl => match us, hl with | [_, _, _], _ => rfl) rfl rfl fun cdv A outer s H E c o =>
  (x_cons (y_par2 c rfl rfl rfl rfl rfl rfl (y_p true rfl (f_list c rfl rfl (e_varB rfl rfl rfl)) (y_p true rfl (f_lst s_nil) p_nil)))
  (x_cons (x_while o.own (t_truth (e_varB rfl rfl rfl) (fun _ => rfl)) (x_cons (y_appPop rfl rfl rfl rfl rfl rfl rfl rfl rfl (e_call c G0 rfl rfl rfl rfl (e_cons rfl (e_var rfl rfl rfl) (e_cons rfl (e_var rfl rfl rfl) (e_cons rfl (e_len c rfl rfl (e_varB rfl rfl rfl)) s_nil)))))
  x_nil))
  (x_cons (x_ret (e_var rfl rfl rfl))
  x_nil)))
theorem w__law_spoiled {k : Nat} (hB : Blt mg) (hX : XC K mg exL) (F : FunD K "_law_spoiled" "_law_spoiled" (defArgs (top 32)) (defBody (top 32)) (defScope (top 32)) [] [] f fd) (gm : mg "_law_spoiled" = some (.ref f)) (G0 : FnGood P w K mg base k "_law_draw" f__law_draw) (G1 : FnGood P w K mg base k "_law_pick" f__law_pick) : FnGood P w K mg base (k + 1) "_law_spoiled" f__law_spoiled :=
  good_defX (fn := b__law_spoiled) ["script", "state", "text", "signs", "sign", "at", "turn", "lines", "spot", "words"] ["script", "state", "text", "signs"] hB hX F gm (by kernel_rfl) (fun _ _ _ _ _ _ us hl => match us, hl with | [_, _, _, _], _ => rfl) rfl rfl fun cdv A outer s H E c o =>
  (x_cons (y_par2 c rfl rfl rfl rfl rfl rfl (y_p false rfl (e_call c G0 rfl rfl rfl rfl (e_cons rfl (e_var rfl rfl rfl) (e_cons rfl (e_var rfl rfl rfl) (e_cons rfl (s_bin ok_add (e_B rfl (e_len c rfl rfl (e_varB rfl rfl rfl))) (e_B rfl (s_con rfl))) s_nil)))) (y_p false rfl (e_call c G0 rfl rfl rfl rfl (e_cons rfl (e_var rfl rfl rfl) (e_cons rfl (e_var rfl rfl rfl) (e_cons rfl (s_con rfl) s_nil)))) p_nil)))
  (x_cons (y_asg false c rfl rfl rfl rfl (e_call c G1 rfl rfl rfl rfl (e_cons rfl (e_var rfl rfl rfl) (e_cons rfl (e_var rfl rfl rfl) (e_cons rfl (e_var rfl rfl rfl) s_nil)))))
  (x_cons (x_if (p_cmp (ok_eq c.room) rfl rfl (e_varB rfl rfl rfl) (e_B rfl (s_con rfl))) (x_cons (x_ret (s_bin ok_add (e_B rfl (s_slc (e_varB rfl rfl rfl) o_none (o_some (e_var rfl rfl rfl)))) (e_B rfl (s_slc (e_varB rfl rfl rfl) (o_some (s_bin ok_add (e_varB rfl rfl rfl) (e_B rfl (s_con rfl)))) o_none))))
  x_nil) x_nil)
  (x_cons (x_if (p_cmp (ok_eq c.room) rfl rfl (e_varB rfl rfl rfl) (e_B rfl (s_con rfl))) (x_cons (x_ret (s_bin ok_add (e_B rfl (s_bin ok_add (e_B rfl (s_slc (e_varB rfl rfl rfl) o_none (o_some (e_var rfl rfl rfl)))) (e_varB rfl rfl rfl))) (e_B rfl (s_slc (e_varB rfl rfl rfl) (o_some (e_var rfl rfl rfl)) o_none))))
  x_nil) x_nil)
  (x_cons (x_if (p_cmp (ok_eq c.room) rfl rfl (e_varB rfl rfl rfl) (e_B rfl (s_con rfl))) (x_cons (y_asg true c rfl rfl rfl rfl (f_split c rfl rfl (e_varB rfl rfl rfl)))
  (x_cons (y_asg false c rfl rfl rfl rfl (e_call c G0 rfl rfl rfl rfl (e_cons rfl (e_var rfl rfl rfl) (e_cons rfl (e_var rfl rfl rfl) (e_cons rfl (e_len c rfl rfl (e_varB rfl rfl rfl)) s_nil)))))
  (x_cons (x_slice rfl rfl (e_call c G1 rfl rfl rfl rfl (e_cons rfl (e_var rfl rfl rfl) (e_cons rfl (e_var rfl rfl rfl) (e_cons rfl (s_lst (e_cons rfl (s_lst s_nil) (e_cons rfl (s_bin ok_mul (e_B rfl (s_slc (e_varB rfl rfl rfl) (o_some (e_var rfl rfl rfl)) (o_some (s_bin ok_add (e_varB rfl rfl rfl) (e_B rfl (s_con rfl)))))) (e_B rfl (s_con rfl))) (e_cons rfl (s_lst (e_cons rfl (e_var rfl rfl rfl) s_nil)) (e_cons rfl (s_lst (e_cons rfl (e_var rfl rfl rfl) (e_cons rfl (e_ix c (fun _ _ => rfl) (e_varB rfl rfl rfl) (e_varB rfl rfl rfl)) s_nil))) s_nil))))) s_nil)))) (e_var rfl rfl rfl) (s_bin ok_add (e_varB rfl rfl rfl) (e_B rfl (s_con rfl))) (fun _ => rfl) rfl rfl rfl)
  (x_cons (x_ret (e_join c (by kernel_rfl) rfl rfl rfl (e_varB rfl rfl rfl)))
  x_nil)))) x_nil)
  (x_cons (x_if (p_cmp (ok_eq c.room) rfl rfl (e_varB rfl rfl rfl) (e_B rfl (s_con rfl))) (x_cons (y_asg false c rfl rfl rfl rfl (e_split c rfl rfl (e_varB rfl rfl rfl)))
  (x_cons (y_asg false c rfl rfl rfl rfl (e_call c G0 rfl rfl rfl rfl (e_cons rfl (e_var rfl rfl rfl) (e_cons rfl (e_var rfl rfl rfl) (e_cons rfl (e_len c rfl rfl (e_varB rfl rfl rfl)) s_nil)))))
  (x_cons (x_ret (e_join c (by kernel_rfl) rfl rfl rfl (e_B rfl (s_bin ok_add (e_B rfl (s_slc (e_varB rfl rfl rfl) o_none (o_some (e_var rfl rfl rfl)))) (e_B rfl (s_rev (e_B rfl (s_slc (e_varB rfl rfl rfl) (o_some (e_var rfl rfl rfl)) o_none))))))))
  x_nil))) x_nil)
  (x_cons (x_ret (s_bin ok_add (e_B rfl (s_bin ok_add (e_B rfl (s_slc (e_varB rfl rfl rfl) o_none (o_some (e_var rfl rfl rfl)))) (e_varB rfl rfl rfl))) (e_B rfl (s_slc (e_varB rfl rfl rfl) (o_some (s_bin ok_add (e_varB rfl rfl rfl) (e_B rfl (s_con rfl)))) o_none))))
  x_nil)))))))
theorem w__law_plant {k : Nat} (hB : Blt mg) (hX : XC K mg exL) (F : FunD K "_law_plant" "_law_plant" (defArgs (top 33)) (defBody (top 33)) (defScope (top 33)) [] [] f fd) (gm : mg "_law_plant" = some (.ref f)) (G0 : FnGood P w K mg base k "_law_shuffled" f__law_shuffled) (G1 : FnGood P w K mg base k "_law_draw" f__law_draw) (G2 : FnGood P w K mg base k "_law_pick" f__law_pick) : FnGood P w K mg base (k + 1) "_law_plant" f__law_plant :=
  good_defX (fn := b__law_plant) ["script", "state", "most", "names", "pool", "name", "few", "found", "first", "second"] ["script", "state", "most"] hB hX F gm (by kernel_rfl) (fun _ _ _ _ _ _ us hl => match us, hl with | [_, _, _], _ => rfl) rfl rfl fun cdv A outer s H E c o =>
  (x_cons (y_asg false c rfl rfl rfl rfl (e_call c G0 rfl rfl rfl rfl (e_cons rfl (e_var rfl rfl rfl) (e_cons rfl (e_var rfl rfl rfl) (e_cons rfl (s_lst (e_cons rfl (s_con (by kernel_rfl)) (e_cons rfl (s_con (by kernel_rfl)) (e_cons rfl (s_con (by kernel_rfl)) (e_cons rfl (s_con (by kernel_rfl)) (e_cons rfl (s_con (by kernel_rfl)) (e_cons rfl (s_con (by kernel_rfl)) (e_cons rfl (s_con (by kernel_rfl)) (e_cons rfl (s_con (by kernel_rfl)) s_nil))))))))) s_nil)))))
  (x_cons (y_asg false c rfl rfl rfl rfl (s_slc (e_B rfl (s_lst (e_cons rfl (s_con (by kernel_rfl)) (e_cons rfl (s_con (by kernel_rfl)) (e_cons rfl (s_con (by kernel_rfl)) (e_cons rfl (s_con (by kernel_rfl)) (e_cons rfl (s_con (by kernel_rfl)) (e_cons rfl (s_con (by kernel_rfl)) s_nil)))))))) o_none (o_some (s_bin ok_add (e_B rfl (s_con rfl)) (e_B rfl (e_call c G1 rfl rfl rfl rfl (e_cons rfl (e_var rfl rfl rfl) (e_cons rfl (e_var rfl rfl rfl) (e_cons rfl (s_con rfl) s_nil)))))))))
  (x_cons (y_par2 c rfl rfl rfl rfl rfl rfl (y_p false rfl (e_call c G2 rfl rfl rfl rfl (e_cons rfl (e_var rfl rfl rfl) (e_cons rfl (e_var rfl rfl rfl) (e_cons rfl (s_lst (e_cons rfl (s_lst (e_cons rfl (s_con rfl) (e_cons rfl (s_con rfl) s_nil))) (e_cons rfl (s_lst (e_cons rfl (s_con rfl) (e_cons rfl (s_con rfl) (e_cons rfl (s_con rfl) (e_cons rfl (s_con rfl) s_nil))))) (e_cons rfl (s_lst (e_cons rfl (s_con rfl) (e_cons rfl (s_con rfl) s_nil))) s_nil)))) s_nil)))) (y_p true rfl (f_lst s_nil) p_nil)))
  (x_cons (y_for c o.own (fun _ => rfl) (i_plain (s_mV (e_sorted c rfl rfl (e_B rfl (s_slc (e_varB rfl rfl rfl) o_none (o_some (s_bin ok_add (e_B rfl (s_con rfl)) (e_B rfl (e_call c G1 rfl rfl rfl rfl (e_cons rfl (e_var rfl rfl rfl) (e_cons rfl (e_var rfl rfl rfl) (e_cons rfl (e_var rfl rfl rfl) s_nil)))))))))))) (j_name c rfl rfl rfl) (x_cons (y_asg false c rfl rfl rfl rfl (s_slc (e_B rfl (e_call c G0 rfl rfl rfl rfl (e_cons rfl (e_var rfl rfl rfl) (e_cons rfl (e_var rfl rfl rfl) (e_cons rfl (e_var rfl rfl rfl) s_nil))))) o_none (o_some (e_call c G2 rfl rfl rfl rfl (e_cons rfl (e_var rfl rfl rfl) (e_cons rfl (e_var rfl rfl rfl) (e_cons rfl (e_var rfl rfl rfl) s_nil)))))))
  (x_cons (y_asg false c rfl rfl rfl rfl (s_slc (e_B rfl (e_call c G0 rfl rfl rfl rfl (e_cons rfl (e_var rfl rfl rfl) (e_cons rfl (e_var rfl rfl rfl) (e_cons rfl (e_var rfl rfl rfl) s_nil))))) o_none (o_some (e_call c G2 rfl rfl rfl rfl (e_cons rfl (e_var rfl rfl rfl) (e_cons rfl (e_var rfl rfl rfl) (e_cons rfl (e_var rfl rfl rfl) s_nil)))))))
  (x_cons (y_append rfl rfl rfl rfl rfl rfl (s_tup (e_cons rfl (e_var rfl rfl rfl) (e_cons rfl (e_tuple c rfl rfl (e_B rfl (e_sorted c rfl rfl (e_varB rfl rfl rfl)))) (e_cons rfl (e_tuple c rfl rfl (e_B rfl (e_sorted c rfl rfl (e_varB rfl rfl rfl)))) s_nil)))))
  x_nil))))
  (x_cons (x_ret (e_tuple c rfl rfl (e_varB rfl rfl rfl)))
  x_nil)))))
theorem w__law_fits {k : Nat} (hB : Blt mg) (hX : XC K mg exL) (F : FunD K "_law_fits" "_law_fits" (defArgs (top 34)) (defBody (top 34)) (defScope (top 34)) [] [] f fd) (gm : mg "_law_fits" = some (.ref f))  : FnGood P w K mg base (k + 1) "_law_fits" f__law_fits :=
  good_defX (fn := b__law_fits) ["plant", "places", "held", "lock", "place"] ["plant", "places"] hB hX F gm (by kernel_rfl) (fun _ _ _ _ _ _ us hl => match us, hl with | [_, _], _ => rfl) rfl rfl fun cdv A outer s H E c o =>
  (x_cons (y_asg false c rfl rfl rfl rfl (s_lst s_nil))
  (x_cons (y_for c o.own (fun _ => rfl) (j_zip c rfl rfl rfl (s_mV (e_var rfl rfl rfl)) (s_mV (e_var rfl rfl rfl))) (j_tup c rfl rfl (j_cons rfl (j_name c rfl rfl rfl) (j_cons rfl (j_name c rfl rfl rfl) g_nil))) (x_cons (y_asg false c rfl rfl rfl rfl (s_bin ok_add (e_varB rfl rfl rfl) (e_B rfl (e_list c rfl rfl (e_B rfl (e_ix c (fun _ _ => rfl) (e_varB rfl rfl rfl) (e_B rfl (s_bin ok_add (e_B rfl (s_con rfl)) (e_varB rfl rfl rfl)))))))))
  x_nil))
  (x_cons (x_ret (e_cmp (ok_eq c.room) rfl (e_B rfl (e_setLen c rfl rfl rfl (e_varB rfl rfl rfl))) (e_B rfl (e_len c rfl rfl (e_varB rfl rfl rfl)))))
  x_nil)))
theorem w__law_vectors {k : Nat} (hB : Blt mg) (hX : XC K mg exL) (F : FunD K "_law_vectors" "_law_vectors" (defArgs (top 35)) (defBody (top 35)) (defScope (top 35)) [] [] f fd) (gm : mg "_law_vectors" = some (.ref f))  : FnGood P w K mg base (k + 1) "_law_vectors" f__law_vectors :=
  good_defX (fn := b__law_vectors) ["many", "rows", "step", "longer", "row"] ["many"] hB hX F gm (by kernel_rfl) (fun _ _ _ _ _ _ us hl => match us, hl with | [_], _ => rfl) rfl rfl fun cdv A outer s H E c o =>
  (x_cons (y_asg false c rfl rfl rfl rfl (s_lst (e_cons rfl (s_tup s_nil) s_nil)))
  (x_cons (y_for c o.own (fun _ => rfl) (j_range1 c rfl rfl (s_mV (e_var rfl rfl rfl))) (j_name c rfl rfl rfl) (x_cons (y_asg false c rfl rfl rfl rfl (s_lst s_nil))
  (x_cons (y_for c o.own (fun _ => rfl) (i_plain (s_mV (e_var rfl rfl rfl))) (j_name c rfl rfl rfl) (x_cons (y_asg false c rfl rfl rfl rfl (s_bin ok_add (e_varB rfl rfl rfl) (e_B rfl (s_lst (e_cons rfl (s_bin ok_add (e_varB rfl rfl rfl) (e_B rfl (s_tup (e_cons rfl (s_con rfl) s_nil)))) (e_cons rfl (s_bin ok_add (e_varB rfl rfl rfl) (e_B rfl (s_tup (e_cons rfl (s_con rfl) s_nil)))) s_nil))))))
  x_nil))
  (x_cons (y_asg false c rfl rfl rfl rfl (e_var rfl rfl rfl))
  x_nil))))
  (x_cons (x_ret (e_var rfl rfl rfl))
  x_nil)))
theorem w__law_states {k : Nat} (hB : Blt mg) (hX : XC K mg exL) (F : FunD K "_law_states" "_law_states" (defArgs (top 36)) (defBody (top 36)) (defScope (top 36)) [] [] f fd) (gm : mg "_law_states" = some (.ref f)) (G0 : FnGood P w K mg base k "_law_vectors" f__law_vectors) (G1 : FnGood P w K mg base k "_law_fits" f__law_fits) : FnGood P w K mg base (k + 1) "_law_states" f__law_states :=
  good_defX (fn := b__law_states) ["plant", "row"] ["plant"] hB hX F gm (by kernel_rfl) (fun _ _ _ _ _ _ us hl => match us, hl with | [_], _ => rfl) rfl rfl fun cdv A outer s H E c o =>
  (x_cons (x_ret (e_comp [("row", 1)] c (by kernel_rfl) rfl (fun _ => rfl) (i_plain (s_mB (e_B rfl (e_call c G0 rfl rfl rfl rfl (e_cons rfl (e_len c rfl rfl (e_varB rfl rfl rfl)) s_nil))))) (fun _ _ _ _ _ => (j_name c.blk rfl rfl rfl)) (fun _ _ _ _ _ => (c_one (t_truth (e_B rfl (e_call c.blk G1 rfl rfl rfl rfl (e_cons rfl (e_var rfl rfl rfl) (e_cons rfl (e_var rfl rfl rfl) s_nil)))) (fun _ => rfl)))) (fun _ _ _ _ _ => (e_var rfl rfl rfl))))
  x_nil)
theorem w__law_some {k : Nat} (hB : Blt mg) (hX : XC K mg exL) (F : FunD K "_law_some" "_law_some" (defArgs (top 37)) (defBody (top 37)) (defScope (top 37)) [] [] f fd) (gm : mg "_law_some" = some (.ref f)) (G0 : FnGood P w K mg base k "_law_plant" f__law_plant) (G1 : FnGood P w K mg base k "_law_states" f__law_states) (G2 : FnGood P w K mg base k "_law_pick" f__law_pick) : FnGood P w K mg base (k + 1) "_law_some" f__law_some :=
  good_defX (fn := b__law_some) ["script", "state", "most", "step", "plant", "rows"] ["script", "state", "most"] hB hX F gm (by kernel_rfl) (fun _ _ _ _ _ _ us hl => match us, hl with | [_, _, _], _ => rfl) rfl rfl fun cdv A outer s H E c o =>
  (x_cons (y_for c o.own (fun _ => rfl) (j_range1 c rfl rfl (s_mV (s_con rfl))) (j_name c rfl rfl rfl) (x_cons (y_asg false c rfl rfl rfl rfl (e_call c G0 rfl rfl rfl rfl (e_cons rfl (e_var rfl rfl rfl) (e_cons rfl (e_var rfl rfl rfl) (e_cons rfl (e_var rfl rfl rfl) s_nil)))))
  (x_cons (y_asg false c rfl rfl rfl rfl (e_call c G1 rfl rfl rfl rfl (e_cons rfl (e_var rfl rfl rfl) s_nil)))
  (x_cons (x_if (t_truth (e_varB rfl rfl rfl) (fun _ => rfl)) (x_cons (x_ret (s_tup (e_cons rfl (e_var rfl rfl rfl) (e_cons rfl (e_var rfl rfl rfl) (e_cons rfl (e_call c G2 rfl rfl rfl rfl (e_cons rfl (e_var rfl rfl rfl) (e_cons rfl (e_var rfl rfl rfl) (e_cons rfl (e_var rfl rfl rfl) s_nil)))) s_nil)))))
  x_nil) x_nil)
  x_nil))))
  (x_cons (x_ret (s_tup (e_cons rfl (s_tup (e_cons rfl (s_tup (e_cons rfl (s_con (by kernel_rfl)) (e_cons rfl (s_tup s_nil) (e_cons rfl (s_tup s_nil) s_nil)))) s_nil)) (e_cons rfl (s_lst (e_cons rfl (s_tup (e_cons rfl (s_con rfl) s_nil)) (e_cons rfl (s_tup (e_cons rfl (s_con rfl) s_nil)) s_nil))) (e_cons rfl (s_tup (e_cons rfl (s_con rfl) s_nil)) s_nil)))))
  x_nil))
theorem w__law_refused_k29 {k : Nat} (hB : Blt mg) (hX : XC K mg exL) (F : FunD K "_law_refused" "_law_refused" (defArgs (top 38)) (defBody (top 38)) (defScope (top 38)) [] [] f fd) (gm : mg "_law_refused" = some (.ref f)) (G0 : FnGood P w K mg base k "_law_parse_plant_or" f__law_parse_plant_or) (G1 : FnGood P w K mg base k "_law_parse_state_or" f__law_parse_state_or) : FnGood P w K mg base (k + 1) "_law_refused" f__law_refused_k29 :=
  good_defX (fn := b__law_refused_k29) ["plant", "text", "line", "things", "wrong"] ["plant", "text", "line"] hB hX F gm (by kernel_rfl) (fun _ _ _ _ _ _ us hl => match us, hl with | [_, _, _], _ => rfl) rfl rfl fun cdv A outer s H E c o =>
  (t_start c rfl rfl rfl (by kernel_rfl) rfl (e_cons rfl (s_slc (e_varB rfl rfl rfl) o_none (o_some (s_neg (e_B rfl (s_con rfl))))) (e_cons rfl (s_bin ok_add (e_varB rfl rfl rfl) (e_B rfl (s_con (by kernel_rfl)))) (e_cons rfl (s_bin ok_add (e_B rfl (s_con (by kernel_rfl))) (e_varB rfl rfl rfl)) (e_cons rfl (s_bin ok_add (e_B rfl (s_con (by kernel_rfl))) (e_varB rfl rfl rfl)) (e_cons rfl (s_bin ok_add (e_varB rfl rfl rfl) (e_varB rfl rfl rfl)) (e_cons rfl (s_con rfl) (e_cons rfl (s_tup s_nil) s_nil)))))))
  (t_xcons (t_asg c rfl rfl rfl rfl (t_add (t_ofB (e_varB rfl rfl rfl)) (t_B rfl (t_lst (t_acons rfl (t_of (s_con rfl)) (t_acons rfl (t_repl (by kernel_rfl) rfl rfl rfl (t_ofB (e_varB rfl rfl rfl))) t_anil))))))
  (t_xcons (PST.of (y_for c o.own (fun _ => rfl) (i_plain (s_mV (s_bin ok_add (e_varB rfl rfl rfl) (e_B rfl (s_lst (e_cons rfl (s_con (by kernel_rfl)) (e_cons rfl (s_con (by kernel_rfl)) (e_cons rfl (s_con (by kernel_rfl)) (e_cons rfl (s_con (by kernel_rfl)) s_nil))))))))) (j_name c rfl rfl rfl) (x_cons (x_if (p_cmp (ok_ne c.room) rfl rfl (e_B rfl (e_call c G0 rfl rfl rfl rfl (e_cons rfl (e_var rfl rfl rfl) s_nil))) (e_B rfl (s_con (by kernel_rfl)))) (x_cons (x_ret (s_con rfl))
  x_nil) x_nil)
  x_nil)))
  (t_xcons (t_asg c rfl rfl rfl rfl (t_lst (t_acons rfl (t_of (s_con (by kernel_rfl))) (t_acons rfl (t_of (s_bin ok_add (e_varB rfl rfl rfl) (e_B rfl (s_con (by kernel_rfl))))) (t_acons rfl (t_of (s_bin ok_add (e_B rfl (s_con (by kernel_rfl))) (e_varB rfl rfl rfl))) (t_acons rfl (t_of (s_bin ok_add (e_varB rfl rfl rfl) (e_B rfl (s_con (by kernel_rfl))))) (t_acons rfl (t_repl (by kernel_rfl) rfl rfl rfl (t_ofB (e_varB rfl rfl rfl))) (t_acons rfl (t_of (s_con rfl)) (t_acons rfl (t_of (s_con rfl)) (t_acons rfl (t_of (s_bin ok_add (e_varB rfl rfl rfl) (e_B rfl (s_con (by kernel_rfl))))) t_anil))))))))))
  (t_xcons (t_for c o.own (fun _ => rfl) (t_iter (t_add (t_ofB (e_varB rfl rfl rfl)) (t_B rfl (t_lst (t_acons rfl (t_repl (by kernel_rfl) rfl rfl rfl (t_ofB (e_varB rfl rfl rfl))) t_anil))))) (j_name c rfl rfl rfl) (x_cons (x_if (p_cmp (ok_ne c.room) rfl rfl (e_B rfl (e_call c G1 rfl rfl rfl rfl (e_cons rfl (e_var rfl rfl rfl) (e_cons rfl (e_var rfl rfl rfl) s_nil)))) (e_B rfl (s_con (by kernel_rfl)))) (x_cons (x_ret (s_con rfl))
  x_nil) x_nil)
  x_nil))
  (t_xcons (PST.of (x_ret (s_and (e_cmp (ok_eq c.room) rfl (e_B rfl (e_call c G1 rfl rfl rfl rfl (e_cons rfl (s_tup s_nil) (e_cons rfl (e_var rfl rfl rfl) s_nil)))) (e_B rfl (s_con (by kernel_rfl)))) (s_one (e_cmp (ok_eq c.room) rfl (e_B rfl (e_call c G1 rfl rfl rfl rfl (e_cons rfl (s_con rfl) (e_cons rfl (s_con rfl) s_nil)))) (e_B rfl (s_con (by kernel_rfl))))))))
  (t_xof x_nil)))))))
theorem w__law_parse_plant_or {k : Nat} (hB : Blt mg) (hX : XC K mg exL) (F : FunD K "_law_parse_plant_or" "_law_parse_plant_or" (defArgs (top 39)) (defBody (top 39)) (defScope (top 39)) [] [] f fd) (gm : mg "_law_parse_plant_or" = some (.ref f)) (G0 : FnGood P w K mg base k "parse_plant" f_parse_plant) : FnGood P w K mg base (k + 1) "_law_parse_plant_or" f__law_parse_plant_or :=
  good_defX (fn := b__law_parse_plant_or) ["text"] ["text"] hB hX F gm (by kernel_rfl) (fun _ _ _ _ _ _ us hl => match us, hl with | [_], _ => rfl) rfl rfl fun cdv A outer s H E c o =>
  (x_cons (x_try c o (fun _ _ _ c1 => (e_call c1 G0 rfl rfl rfl rfl (e_cons rfl (e_var rfl rfl rfl) s_nil))) (h_cons (by kernel_rfl) rfl rfl (by kernel_rfl) h_nil))
  x_nil)
theorem w__law_parse_state_or {k : Nat} (hB : Blt mg) (hX : XC K mg exL) (F : FunD K "_law_parse_state_or" "_law_parse_state_or" (defArgs (top 40)) (defBody (top 40)) (defScope (top 40)) [] [] f fd) (gm : mg "_law_parse_state_or" = some (.ref f)) (G0 : FnGood P w K mg base k "parse_state" f_parse_state) : FnGood P w K mg base (k + 1) "_law_parse_state_or" f__law_parse_state_or :=
  good_defX (fn := b__law_parse_state_or) ["plant", "text"] ["plant", "text"] hB hX F gm (by kernel_rfl) (fun _ _ _ _ _ _ us hl => match us, hl with | [_, _], _ => rfl) rfl rfl fun cdv A outer s H E c o =>
  (x_cons (x_try c o (fun _ _ _ c1 => (e_call c1 G0 rfl rfl rfl rfl (e_cons rfl (e_var rfl rfl rfl) (e_cons rfl (e_var rfl rfl rfl) s_nil)))) (h_cons (by kernel_rfl) rfl rfl (by kernel_rfl) (h_cons (by kernel_rfl) rfl rfl (by kernel_rfl) h_nil)))
  x_nil)
def b_law : Fn := ⟨1, 13, [.asg false 2 (.lst [.con (.str "a"), .con (.str "k"), .con (.str "l"), .con (.str ":"), .con (.str "|"), .con (.str " "), .con (.str "\n"), .con (.str "="), .con (.str "0"), .con (.str "1"), .con (.str "A"), .con (.str " | "), .con (.str "door"), .con (.str "=0"), .con (.str "=1"), .con (.str "  "), .con (.str "zz")]),
  .for (.n 3) .range1 [.con (.int 7)] [.unp (.t [(.n 5), (.n 6), (.n 7)]) (.call 0 [.var 0, .var 1, .con (.int 7)]),
  .par [(8, false), (9, false)] [.call 1 [.var 5], .call 2 [.var 5, .var 7]],
  .ite (.or (.op1 .not (.call 3 [.call 4 [.var 8], .var 5])) (.op1 .not (.call 3 [.call 5 [.var 5, .var 9], .var 7]))) [.ret (.con (.bool false))] [],
  .for (.n 4) .range1 [.con (.int 5)] [.par [(11, false), (12, false)] [.call 6 [.var 0, .var 1, .var 8, .var 2], .call 6 [.var 0, .var 1, .var 9, .var 2]],
  .asg false 10 (.call 7 [.var 11]),
  .ite (.op1 (.isi .tuple) (.var 10)) [.ite (.op2 .ne (.call 1 [.var 10]) (.var 11)) [.ret (.con (.bool false))] []] [.ite (.or (.op2 .ne (.var 10) (.con (.str "ParseError"))) (.op2 .eq (.var 11) (.var 8))) [.ret (.con (.bool false))] []],
  .asg false 10 (.call 8 [.var 5, .var 12]),
  .ite (.op1 (.isi .tuple) (.var 10)) [.ite (.op2 .ne (.call 2 [.var 5, .var 10]) (.var 12)) [.ret (.con (.bool false))] []] [.ite (.or (.op2 .ne (.var 10) (.con (.str "ParseError"))) (.op2 .eq (.var 12) (.var 9))) [.ret (.con (.bool false))] []]],
  .ite (.op1 .not (.call 9 [.var 5, .var 8, .var 9])) [.ret (.con (.bool false))] []],
  .ret (.con (.bool true))]⟩
theorem w_law {k : Nat} (hB : Blt mg) (hX : XC K mg exL) (F : FunD K "law" "law" (defArgs (top 41)) (defBody (top 41)) (defScope (top 41)) [] [] f fd) (G0 : FnGood P w K mg base k "_law_some" f__law_some) (G1 : FnGood P w K mg base k "format_plant" f_format_plant) (G2 : FnGood P w K mg base k "format_state" f_format_state) (G3 : FnGood P w K mg base k "_law_same" (f__law_same deep)) (G4 : FnGood P w K mg base k "parse_plant" f_parse_plant) (G5 : FnGood P w K mg base k "parse_state" f_parse_state) (G6 : FnGood P w K mg base k "_law_spoiled" f__law_spoiled) (G7 : FnGood P w K mg base k "_law_parse_plant_or" f__law_parse_plant_or) (G8 : FnGood P w K mg base k "_law_parse_state_or" f__law_parse_state_or) (G9 : FnGood P w K mg base k "_law_refused" f__law_refused_k29)
    (law_run : ∀ ns : List Int, ns.length ≤ 63 → ∃ e st', exs [f__law_some, f_format_plant, f_format_state, (f__law_same deep), f_parse_plant, f_parse_state, f__law_spoiled, f__law_parse_plant_or, f__law_parse_state_or, f__law_refused_k29] b_law.body (lawEnv 13 1 ns) [] = some (.ok (.rt (.bool true), e), st')) : FnOk P w K mg base CX0 (k + 1) f fd ["script"] (spLaw K 63) :=
  law_ofX (i1 := 1) (Γ := [f__law_some, f_format_plant, f_format_state, (f__law_same deep), f_parse_plant, f_parse_state, f__law_spoiled, f__law_parse_plant_or, f__law_parse_state_or, f__law_refused_k29]) (B := b_law.body) ["script", "state", "signs", "k", "step", "plant", "rows", "places", "text", "line", "found", "wrong", "other"] hB hX F (by kernel_rfl) rfl rfl rfl rfl (fun cdv A outer s H E c o =>
  (x_cons (y_asg false c rfl rfl rfl rfl (s_lst (e_cons rfl (s_con (by kernel_rfl)) (e_cons rfl (s_con (by kernel_rfl)) (e_cons rfl (s_con (by kernel_rfl)) (e_cons rfl (s_con (by kernel_rfl)) (e_cons rfl (s_con (by kernel_rfl)) (e_cons rfl (s_con (by kernel_rfl)) (e_cons rfl (s_con (by kernel_rfl)) (e_cons rfl (s_con (by kernel_rfl)) (e_cons rfl (s_con (by kernel_rfl)) (e_cons rfl (s_con (by kernel_rfl)) (e_cons rfl (s_con (by kernel_rfl)) (e_cons rfl (s_con (by kernel_rfl)) (e_cons rfl (s_con (by kernel_rfl)) (e_cons rfl (s_con (by kernel_rfl)) (e_cons rfl (s_con (by kernel_rfl)) (e_cons rfl (s_con (by kernel_rfl)) (e_cons rfl (s_con (by kernel_rfl)) s_nil)))))))))))))))))))
  (x_cons (y_for c o.own (fun _ => rfl) (j_range1 c rfl rfl (s_mV (s_con rfl))) (j_name c rfl rfl rfl) (x_cons (y_unp rfl rfl rfl (j_tup c rfl rfl (j_cons rfl (j_name c rfl rfl rfl) (j_cons rfl (j_name c rfl rfl rfl) (j_cons rfl (j_name c rfl rfl rfl) g_nil)))) (e_call c G0 rfl rfl rfl rfl (e_cons rfl (e_var rfl rfl rfl) (e_cons rfl (e_var rfl rfl rfl) (e_cons rfl (s_con rfl) s_nil)))))
  (x_cons (y_par2 c rfl rfl rfl rfl rfl rfl (y_p false rfl (e_call c G1 rfl rfl rfl rfl (e_cons rfl (e_var rfl rfl rfl) s_nil)) (y_p false rfl (e_call c G2 rfl rfl rfl rfl (e_cons rfl (e_var rfl rfl rfl) (e_cons rfl (e_var rfl rfl rfl) s_nil))) p_nil)))
  (x_cons (x_if (PW.pt (t_or (t_not (t_truth (e_B rfl (e_call c G3 rfl rfl rfl rfl (e_cons rfl (e_call c G4 rfl rfl rfl rfl (e_cons rfl (e_var rfl rfl rfl) s_nil)) (e_cons rfl (e_var rfl rfl rfl) s_nil)))) (fun _ => rfl))) (t_or1 (t_not (t_truth (e_B rfl (e_call c G3 rfl rfl rfl rfl (e_cons rfl (e_call c G5 rfl rfl rfl rfl (e_cons rfl (e_var rfl rfl rfl) (e_cons rfl (e_var rfl rfl rfl) s_nil))) (e_cons rfl (e_var rfl rfl rfl) s_nil)))) (fun _ => rfl)))))) (x_cons (x_ret (s_con rfl))
  x_nil) x_nil)
  (x_cons (y_for c o.own (fun _ => rfl) (j_range1 c rfl rfl (s_mV (s_con rfl))) (j_name c rfl rfl rfl) (x_cons (y_par2 c rfl rfl rfl rfl rfl rfl (y_p false rfl (e_call c G6 rfl rfl rfl rfl (e_cons rfl (e_var rfl rfl rfl) (e_cons rfl (e_var rfl rfl rfl) (e_cons rfl (e_var rfl rfl rfl) (e_cons rfl (e_var rfl rfl rfl) s_nil))))) (y_p false rfl (e_call c G6 rfl rfl rfl rfl (e_cons rfl (e_var rfl rfl rfl) (e_cons rfl (e_var rfl rfl rfl) (e_cons rfl (e_var rfl rfl rfl) (e_cons rfl (e_var rfl rfl rfl) s_nil))))) p_nil)))
  (x_cons (y_asg false c rfl rfl rfl rfl (e_call c G7 rfl rfl rfl rfl (e_cons rfl (e_var rfl rfl rfl) s_nil)))
  (x_cons (x_if (t_truth (e_B rfl (e_isi c rfl rfl (by kernel_rfl) (by kernel_rfl) rfl (e_varB rfl rfl rfl))) (fun _ => rfl)) (x_cons (x_if (p_cmp (ok_ne c.room) rfl rfl (e_B rfl (e_call c G1 rfl rfl rfl rfl (e_cons rfl (e_var rfl rfl rfl) s_nil))) (e_varB rfl rfl rfl)) (x_cons (x_ret (s_con rfl))
  x_nil) x_nil)
  x_nil) (x_cons (x_if (PW.pt (t_or (p_cmp (ok_ne c.room) rfl rfl (e_varB rfl rfl rfl) (e_B rfl (s_con (by kernel_rfl)))) (t_or1 (p_cmp (ok_eq c.room) rfl rfl (e_varB rfl rfl rfl) (e_varB rfl rfl rfl))))) (x_cons (x_ret (s_con rfl))
  x_nil) x_nil)
  x_nil))
  (x_cons (y_asg false c rfl rfl rfl rfl (e_call c G8 rfl rfl rfl rfl (e_cons rfl (e_var rfl rfl rfl) (e_cons rfl (e_var rfl rfl rfl) s_nil))))
  (x_cons (x_if (t_truth (e_B rfl (e_isi c rfl rfl (by kernel_rfl) (by kernel_rfl) rfl (e_varB rfl rfl rfl))) (fun _ => rfl)) (x_cons (x_if (p_cmp (ok_ne c.room) rfl rfl (e_B rfl (e_call c G2 rfl rfl rfl rfl (e_cons rfl (e_var rfl rfl rfl) (e_cons rfl (e_var rfl rfl rfl) s_nil)))) (e_varB rfl rfl rfl)) (x_cons (x_ret (s_con rfl))
  x_nil) x_nil)
  x_nil) (x_cons (x_if (PW.pt (t_or (p_cmp (ok_ne c.room) rfl rfl (e_varB rfl rfl rfl) (e_B rfl (s_con (by kernel_rfl)))) (t_or1 (p_cmp (ok_eq c.room) rfl rfl (e_varB rfl rfl rfl) (e_varB rfl rfl rfl))))) (x_cons (x_ret (s_con rfl))
  x_nil) x_nil)
  x_nil))
  x_nil))))))
  (x_cons (x_if (t_not (t_truth (e_B rfl (e_call c G9 rfl rfl rfl rfl (e_cons rfl (e_var rfl rfl rfl) (e_cons rfl (e_var rfl rfl rfl) (e_cons rfl (e_var rfl rfl rfl) s_nil))))) (fun _ => rfl))) (x_cons (x_ret (s_con rfl))
  x_nil) x_nil)
  x_nil))))))
  (x_cons (x_ret (s_con rfl))
  x_nil)))) law_run
end
end TK.KK
namespace TK
open PySem L2
section
variable {Γ : List FnSem} {env : Env} {st : DSt}
@[simp] theorem bind_ap {α β : Type} (x : M α) (f : α → M β) (st : DSt) : (x >>= f) st = (match x st with | none => none | some (.error c, s) => some (.error c, s) | some (.ok a, s) => f a s) := rfl
@[simp] theorem pure_ap' {α : Type} (a : α) (st : DSt) : (pure a : M α) st = some (.ok a, st) := rfl
@[simp] theorem fail_ap {α : Type} (st : DSt) : (fail : M α) st = none := rfl
@[simp] theorem throw_ap {α : Type} (c : Str) (st : DSt) : (throwX c : M α) st = some (.error c, st) := rfl
@[simp] theorem liftO_ap {α : Type} (o : Option α) (st : DSt) : (liftO o : M α) st = o.map fun a => (.ok a, st) := by cases o <;> rfl
@[simp] theorem ite_ap {α : Type} (p : Prop) [Decidable p] (x y : M α) (st : DSt) : (if p then x else y) st = if p then x st else y st := by split <;> rfl
theorem run_ap {fn : Fn} {ds : List D} (h : ds.length = fn.np) : run Γ fn ds st = (match exs Γ fn.body (ds.map .val ++ List.replicate (fn.nl - fn.np) .no) st with
    | none => none
    | some (.error c, s) => some (.error c, s)
    | some (.ok (.rt d, _), s) => some (.ok d, s)
    | some (.ok (.nx, _), s) => some (.ok .none, s)) := by
  unfold run
  rw [if_pos h]
  show M.bnd _ _ st = _
  unfold M.bnd
  cases exs Γ fn.body (ds.map .val ++ List.replicate (fn.nl - fn.np) .no) st with
  | none => rfl
  | some p =>
    obtain ⟨r, s⟩ := p
    cases r with
    | error c => rfl
    | ok q =>
      obtain ⟨fl, e⟩ := q
      cases fl <;> rfl
theorem compL_fm {f : D → M (Option D)} {g : D → Option D} : ∀ {l : List D}, (∀ d ∈ l, f d st = some (.ok (g d), st)) → compL f l st = some (.ok (l.filterMap g), st)
  | [], _ => rfl
  | d :: r, h => by
    show (f d >>= fun o => compL f r >>= fun rest => (pure (match o with | some x => x :: rest | none => rest) : M (List D))) st = _
    rw [bind_eq (h d List.mem_cons_self), bind_eq (compL_fm fun x hx => h x (List.mem_cons_of_mem _ hx))]
    cases e : g d with
    | none => rw [List.filterMap_cons_none e]; rfl
    | some x => rw [List.filterMap_cons_some e]; rfl
theorem compL_map {f : D → M (Option D)} {g : D → D} {l : List D} (h : ∀ d ∈ l, f d st = some (.ok (some (g d)), st)) : compL f l st = some (.ok (l.map g), st) := by
  rw [compL_fm (g := fun d => some (g d)) h, List.filterMap_eq_map']
theorem compL_mapc {α : Type} {f : D → M (Option D)} {h : α → D} {g : α → D} : ∀ {l : List α}, (∀ a ∈ l, f (h a) st = some (.ok (some (g a)), st)) → compL f (l.map h) st = some (.ok (l.map g), st)
  | [], _ => rfl
  | a :: r, hh => by
    show (f (h a) >>= fun o => compL f (r.map h) >>= fun rest => (pure (match o with | some x => x :: rest | none => rest) : M (List D))) st = _
    rw [bind_eq (hh a List.mem_cons_self), bind_eq (compL_mapc fun x hx => hh x (List.mem_cons_of_mem _ hx))]
    rfl
theorem noX_ok {α : Type} {x : M α} {a : α} {st' : DSt} (h : x st = some (.ok a, st')) : noX x st = some (.ok a, st') := by
  unfold noX; rw [h]
@[simp] theorem ev_con (d : D) : ev Γ env (.con d) = pure d := rfl
@[simp] theorem ev_var (i : Nat) : ev Γ env (.var i) = liftO (getV env i) := rfl
@[simp] theorem ev_tup (es : List TK.E) : ev Γ env (.tup es) = (evs Γ env es >>= fun ds => if ds.length ≤ lim then pure (.tuple ds) else fail) := rfl
@[simp] theorem ev_lst (es : List TK.E) : ev Γ env (.lst es) = (evs Γ env es >>= fun ds => if ds.length ≤ lim then pure (.list ds) else fail) := rfl
@[simp] theorem ev_op1 (o : O1) (a : TK.E) : ev Γ env (.op1 o a) = (orB env a (ev Γ env a) >>= fun x => liftO (app1 o x)) := rfl
@[simp] theorem ev_op2 (o : O2) (a b : TK.E) : ev Γ env (.op2 o a b) = (orB env a (ev Γ env a) >>= fun x => orB env b (ev Γ env b) >>= fun y => liftO (app2 o x y)) := rfl
@[simp] theorem ev_op3 (o : Nat) (a b c : TK.E) : ev Γ env (.op3 o a b c) = (orB env a (ev Γ env a) >>= fun x => orB env b (ev Γ env b) >>= fun y => opTok o x y) := rfl
@[simp] theorem ev_and (a b : TK.E) : ev Γ env (.and a b) = (ev Γ env a >>= fun x => tru x >>= fun k => if k then ev Γ env b else pure x) := rfl
@[simp] theorem ev_or (a b : TK.E) : ev Γ env (.or a b) = (ev Γ env a >>= fun x => tru x >>= fun k => if k then pure x else ev Γ env b) := rfl
@[simp] theorem ev_ite (c a b : TK.E) : ev Γ env (.ite c a b) = (orB env c (ev Γ env c) >>= fun x => tru x >>= fun k => if k then ev Γ env a else ev Γ env b) := rfl
@[simp] theorem ev_call (j : Nat) (es : List TK.E) : ev Γ env (.call j es) = (evs Γ env es >>= fun ds => (Γ.getD j (fun _ => fail)) ds) := rfl
@[simp] theorem ev_slc (a : TK.E) (lo hi : Option TK.E) : ev Γ env (.slc a lo hi) = (orB env a (ev Γ env a) >>= fun x => evo Γ env lo >>= fun l => evo Γ env hi >>= fun h => liftO (slcD x l h)) := rfl
@[simp] theorem evo_none : evo Γ env none = pure none := rfl
def intM : D → M (Option Int)
  | .int i => pure (some i)
  | _ => fail
@[simp] theorem intM_int (i : Int) : intM (.int i) = pure (some i) := rfl
@[simp] theorem evo_some (e : TK.E) : evo Γ env (some e) = (ev Γ env e >>= intM) := by
  show (ev Γ env e >>= _) = _
  congr 1
@[simp] theorem evs_nil : evs Γ env [] = pure [] := rfl
@[simp] theorem evs_cons (e : TK.E) (es : List TK.E) : evs Γ env (e :: es) = (ev Γ env e >>= fun d => evs Γ env es >>= fun ds => pure (d :: ds)) := rfl
@[simp] theorem evsB_nil : evsB Γ env [] = pure [] := rfl
@[simp] theorem evsB_cons (e : TK.E) (es : List TK.E) : evsB Γ env (e :: es) = (orB env e (ev Γ env e) >>= fun d => evsB Γ env es >>= fun ds => pure (d :: ds)) := rfl
@[simp] theorem evc_nil : evc Γ env [] = pure true := rfl
@[simp] theorem evc_cons (e : TK.E) (es : List TK.E) : evc Γ env (e :: es) = (ev Γ env e >>= fun d => tru d >>= fun k => if k then evc Γ env es else pure false) := rfl
@[simp] theorem orB_var (i : Nat) (r : M D) : orB env (.var i) r = liftO (getB env i) := rfl
@[simp] theorem orB_con (d : D) (r : M D) : orB env (.con d) r = r := rfl
@[simp] theorem orB_tup (es : List TK.E) (r : M D) : orB env (.tup es) r = r := rfl
@[simp] theorem orB_lst (es : List TK.E) (r : M D) : orB env (.lst es) r = r := rfl
@[simp] theorem orB_op1 (o : O1) (a : TK.E) (r : M D) : orB env (.op1 o a) r = r := rfl
@[simp] theorem orB_op2 (o : O2) (a b : TK.E) (r : M D) : orB env (.op2 o a b) r = r := rfl
@[simp] theorem orB_op3 (o : Nat) (a b c : TK.E) (r : M D) : orB env (.op3 o a b c) r = r := rfl
@[simp] theorem orB_chain (o o2 : O2) (a b c : TK.E) (r : M D) : orB env (.chain o o2 a b c) r = r := rfl
@[simp] theorem orB_and (a b : TK.E) (r : M D) : orB env (.and a b) r = r := rfl
@[simp] theorem orB_or (a b : TK.E) (r : M D) : orB env (.or a b) r = r := rfl
@[simp] theorem orB_ite (a b c : TK.E) (r : M D) : orB env (.ite a b c) r = r := rfl
@[simp] theorem orB_slc (a : TK.E) (lo hi : Option TK.E) (r : M D) : orB env (.slc a lo hi) r = r := rfl
@[simp] theorem orB_call (j : Nat) (es : List TK.E) (r : M D) : orB env (.call j es) r = r := rfl
@[simp] theorem orB_comp (own : List Nat) (tg : Tg) (k : IK) (src conds : List TK.E) (elt : TK.E) (r : M D) : orB env (.comp own tg k src conds elt) r = r := rfl
@[simp] theorem orB_get (a b : TK.E) (c : D) (r : M D) : orB env (.get a b c) r = r := rfl
@[simp] theorem orB_idx (a b : TK.E) (r : M D) : orB env (.idx a b) r = r := rfl
@[simp] theorem ev_idx (a b : TK.E) : ev Γ env (.idx a b) = (orB env a (ev Γ env a) >>= fun x => if isLst x then (orB env b (ev Γ env b) >>= fun y => liftO (app2 .index x y)) else fail) := rfl
@[simp] theorem isLst_l (l : List D) : isLst (.list l) = true := rfl
@[simp] theorem orB_compX (own : List Nat) (tg : Tg) (k : IK) (src conds : List TK.E) (elt : TK.E) (r : M D) : orB env (.compX own tg k src conds elt) r = r := rfl
@[simp] theorem orB_comp2 (own : List Nat) (tg : Tg) (k : IK) (src : List TK.E) (own1 : List Nat) (tg1 : Tg) (k1 : IK) (src1 conds : List TK.E) (elt : TK.E) (r : M D) : orB env (.comp2 own tg k src own1 tg1 k1 src1 conds elt) r = r := rfl
@[simp] theorem orB_dict (t : Bool) (ks vs : List TK.E) (r : M D) : orB env (.dict t ks vs) r = r := rfl
@[simp] theorem ev_get (a b : TK.E) (c : D) : ev Γ env (.get a b c) = (orB env a (ev Γ env a) >>= fun x => if (dictV x).isSome then (orB env b (ev Γ env b) >>= fun y => liftO (lookD x y) >>= fun o => pure (o.getD c)) else fail) := rfl
@[simp] theorem ev_dict (t : Bool) (ks vs : List TK.E) : ev Γ env (.dict t ks vs) = (evs Γ env ks >>= fun a => evs Γ env vs >>= fun b => if (a.all (keyFor t)) && a.length ≤ 1 && b.length = a.length then pure (mkD t ((a.zip b).foldl (fun m p => putD m p.1 p.2) [])) else fail) := rfl
@[simp] theorem getB0 (d : D) (r : Env) : getB (.val d :: r) 0 = some d := rfl
@[simp] theorem getB0o (d : D) (r : Env) : getB (.own d :: r) 0 = some d := rfl
@[simp] theorem getBs (s : Slot) (r : Env) (i : Nat) : getB (s :: r) (i + 1) = getB r i := rfl
@[simp] theorem getV0 (d : D) (r : Env) : getV (.val d :: r) 0 = some d := rfl
@[simp] theorem getVs (s : Slot) (r : Env) (i : Nat) : getV (s :: r) (i + 1) = getV r i := rfl
@[simp] theorem tru_def (d : D) : tru d = liftO (truth d) := rfl
@[simp] theorem truth_none : truth .none = some false := rfl
@[simp] theorem truth_bool (b : Bool) : truth (.bool b) = some b := rfl
@[simp] theorem truth_int (i : Int) : truth (.int i) = some (i != 0) := rfl
@[simp] theorem truth_list (l : List D) : truth (.list l) = some (!l.isEmpty) := rfl
@[simp] theorem truth_tuple (l : List D) : truth (.tuple l) = some (!l.isEmpty) := rfl
def chainM (o : O2) (y : D) (z : M D) : D → M D
  | .bool true => z >>= fun z => liftO (app2 o y z)
  | .bool false => pure (.bool false)
  | _ => fail
@[simp] theorem chainM_t (o : O2) (y : D) (z : M D) : chainM o y z (.bool true) = (z >>= fun z => liftO (app2 o y z)) := rfl
@[simp] theorem chainM_f (o : O2) (y : D) (z : M D) : chainM o y z (.bool false) = pure (.bool false) := rfl
@[simp] theorem ev_chain (o o2 : O2) (a b c : TK.E) : ev Γ env (.chain o o2 a b c) = (orB env a (ev Γ env a) >>= fun x => orB env b (ev Γ env b) >>= fun y => liftO (app2 o x y) >>= chainM o2 y (orB env c (ev Γ env c))) := rfl
def compF (Γ : List FnSem) (env : Env) (own : List Nat) (tg : Tg) (conds : List TK.E) (elt : TK.E) (d : D) : M (Option D) :=
  liftO (asgT tg d (wipeE env own)) >>= fun env1 => evc Γ env1 conds >>= fun b => if b then ev Γ env1 elt >>= fun x => pure (some x) else pure none
@[simp] theorem ev_comp (own : List Nat) (tg : Tg) (k : IK) (src conds : List TK.E) (elt : TK.E) : ev Γ env (.comp own tg k src conds elt) = (evsB Γ env src >>= fun ds => liftO (walkL k ds) >>= fun items => noX (compL (compF Γ env own tg conds elt) items) >>= fun out => pure (.list out)) := rfl
def compXF (Γ : List FnSem) (env : Env) (own : List Nat) (tg : Tg) (conds : List TK.E) (elt : TK.E) (d : D) : M (Option D) :=
  liftO (asgT tg d (wipeE env own)) >>= fun env1 => noX (evc Γ env1 conds) >>= fun b => if b then ev Γ env1 elt >>= fun x => pure (some x) else pure none
@[simp] theorem ev_compX (own : List Nat) (tg : Tg) (k : IK) (src conds : List TK.E) (elt : TK.E) : ev Γ env (.compX own tg k src conds elt) = (evsB Γ env src >>= fun ds => liftO (walkL k ds) >>= fun items => compL (compXF Γ env own tg conds elt) items >>= fun out => pure (.list out)) := rfl
@[simp] theorem exs_nil : exs Γ [] env = pure (.nx, env) := rfl
def nextM (Γ : List FnSem) (r : List S) : Fl × Env → M (Fl × Env)
  | (.nx, e) => exs Γ r e
  | (.rt v, e) => pure (.rt v, e)
@[simp] theorem nextM_nx (r : List S) (e : Env) : nextM Γ r (.nx, e) = exs Γ r e := rfl
@[simp] theorem nextM_rt (r : List S) (v : D) (e : Env) : nextM Γ r (.rt v, e) = pure (.rt v, e) := rfl
@[simp] theorem exs_cons (s : S) (r : List S) : exs Γ (s :: r) env = (ex Γ s env >>= nextM Γ r) := by
  show (ex Γ s env >>= _) = _
  congr 1
  funext p
  obtain ⟨fl, e⟩ := p
  cases fl <;> rfl
@[simp] theorem ex_ret (e : TK.E) : ex Γ (.ret e) env = (ev Γ (frz env (esc e)) e >>= fun d => pure (.rt d, frz env (esc e))) := rfl
@[simp] theorem ex_ite (c : TK.E) (a b : List S) : ex Γ (.ite c a b) env = (tst Γ c env >>= fun k => if k then exs Γ a env else exs Γ b env) := rfl
@[simp] theorem tst_def (c : TK.E) : tst Γ c env = (orB env c (ev Γ env c) >>= tru) := rfl
@[simp] theorem ex_asg (o : Bool) (i : Nat) (e : TK.E) : ex Γ (.asg o i e) env = (ev Γ (frz env (esc e)) e >>= fun d => if ownB o d then (setS (frz env (esc e)) i (if o then .own d else .val d) >>= fun e2 => pure (.nx, e2)) else fail) := rfl
@[simp] theorem ownB_f (d : D) : ownB false d = true := rfl
@[simp] theorem ownB_l (l : List D) : ownB true (.list l) = true := rfl
@[simp] theorem frz_nil : frz env [] = env := rfl
@[simp] theorem frz_cons (i : Nat) (r : List Nat) : frz env (i :: r) = (match (frz env r)[i]? with | some (.own d) => (frz env r).set i (.val d) | _ => frz env r) := rfl
@[simp] theorem app2_le_int (i j : Int) : app2 .le (.int i) (.int j) = some (.bool (decide (i ≤ j))) := rfl
@[simp] theorem app2_le_str (a b : Str) : app2 .le (.str a) (.str b) = some (.bool (strLe a b)) := rfl
@[simp] theorem app2_gt_int (i j : Int) : app2 .gt (.int i) (.int j) = some (.bool (decide (j < i))) := rfl
@[simp] theorem app2_add_int (i j : Int) : app2 .add (.int i) (.int j) = some (.int (i + j)) := rfl
@[simp] theorem app2_sub_int (i j : Int) : app2 .sub (.int i) (.int j) = some (.int (i - j)) := rfl
@[simp] theorem app2_eq (a b : D) : app2 .eq a b = (eqD a b).map .bool := rfl
@[simp] theorem app2_ne (a b : D) : app2 .ne a b = (eqD a b).map fun x => .bool (!x) := rfl
@[simp] theorem app2_lt (a b : D) : app2 .lt a b = (ltD a b).map .bool := rfl
@[simp] theorem app2_ix_tup (l : List D) (i : Int) : app2 .ix (.tuple l) (.int i) = atI l i := rfl
@[simp] theorem app2_ix_lst (l : List D) (i : Int) : app2 .ix (.list l) (.int i) = atI l i := rfl
@[simp] theorem app1_not (d : D) : app1 .not d = (truth d).map fun b => .bool (!b) := rfl
@[simp] theorem app1_isi (t : Ty) (d : D) : app1 (.isi t) d = (typ t d).map .bool := rfl
@[simp] theorem app1_len_l (l : List D) : app1 .len (.list l) = some (.int l.length) := rfl
@[simp] theorem app1_len_t (l : List D) : app1 .len (.tuple l) = some (.int l.length) := rfl
@[simp] theorem app1_len_s (s : Str) : app1 .len (.str s) = if s.length ≤ lim then some (.int s.length) else none := rfl
@[simp] theorem app1_all (l : List D) : app1 .all (.list l) = (boolsOf l).map fun bs => .bool (bs.all id) := rfl
@[simp] theorem app1_listOf_t (l : List D) : app1 .listOf (.tuple l) = some (.list l) := rfl
@[simp] theorem app1_listOf_l (l : List D) : app1 .listOf (.list l) = some (.list l) := rfl
@[simp] theorem app1_tupleOf_l (l : List D) : app1 .tupleOf (.list l) = some (.tuple l) := rfl
@[simp] theorem app1_sorted (l : List D) : app1 .sorted (.list l) = (sortD l).map .list := rfl
@[simp] theorem app1_setSorted (d : D) : app1 .setSorted d = (seqOf d).bind fun l => (strsOf l).bind fun ss => if ss.length < 4000 then some (.list ((sortS (nub ss)).map .str)) else none := rfl
@[simp] theorem seqOf_l (l : List D) : seqOf (.list l) = some l := rfl
@[simp] theorem seqOf_t (l : List D) : seqOf (.tuple l) = some l := rfl
@[simp] theorem walk_l (l : List D) : walkL .plain [.list l] = some l := rfl
@[simp] theorem walk_t (l : List D) : walkL .plain [.tuple l] = some l := rfl
@[simp] theorem walk_s (s : Str) : walkL .plain [.str s] = if s.length ≤ lim then some (chars s) else none := rfl
@[simp] theorem walk_r1 (n : Int) : walkL .range1 [.int n] = if n.natAbs ≤ lim then some (rangeL 0 n.toNat) else none := rfl
@[simp] theorem walk_zl (x y : List D) : walkL .zip2 [.list x, .list y] = some ((x.zip y).map fun p => .tuple [p.1, p.2]) := rfl
@[simp] theorem walk_zt (x y : List D) : walkL .zip2 [.tuple x, .tuple y] = some ((x.zip y).map fun p => .tuple [p.1, p.2]) := rfl
@[simp] theorem slcD_l (l : List D) (lo hi : Option Int) : slcD (.list l) lo hi = some (.list (cut l lo hi)) := rfl
@[simp] theorem slcD_t (l : List D) (lo hi : Option Int) : slcD (.tuple l) lo hi = some (.tuple (cut l lo hi)) := rfl
@[simp] theorem wipe0 : wipeE env [] = env := rfl
@[simp] theorem asgT_n (i : Nat) (d : D) (e : Env) : asgT (.n i) d e = if i < e.length then some (e.set i (.val d)) else none := rfl
@[simp] theorem asgT_tl (ts : List Tg) (l : List D) (e : Env) : asgT (.t ts) (.list l) e = asgTs ts l e := rfl
@[simp] theorem asgT_t (ts : List Tg) (l : List D) (e : Env) : asgT (.t ts) (.tuple l) e = asgTs ts l e := rfl
@[simp] theorem asgTs_nil (e : Env) : asgTs [] [] e = some e := rfl
@[simp] theorem asgTs_cons (t : Tg) (ts : List Tg) (d : D) (ds : List D) (e : Env) : asgTs (t :: ts) (d :: ds) e = (asgT t d e).bind fun e => asgTs ts ds e := rfl
@[simp] theorem typ_str_str (s : Str) : typ .str (.str s) = some true := rfl
@[simp] theorem typ_tuple_tuple (l : List D) : typ .tuple (.tuple l) = some true := rfl
@[simp] theorem ex_for (tg : Tg) (k : IK) (src : List TK.E) (b : List S) : ex Γ (.for tg k src b) env = (evs Γ (frz env (escs src)) src >>= fun ds => liftO (walkL k ds) >>= fun items => forL tg (exs Γ b) items (frz env (escs src))) := rfl
end
end TK
namespace TK
open PySem L2
def b_draw : Fn := ⟨3, 8, [.ite (.op1 .not (.op3 2 (.var 1) (.con .none) (.con .none))) [.tokApp 1 (.op1 .max (.op2 .add (.comp [4] (.n 4) .plain [.var 0] [] (.op1 .abs (.var 4))) (.lst [.con (.int 0)])))] [],
  .tokApp 1 (.con (.int 0)),
  .asg false 3 (.op3 0 (.var 1) (.con .none) (.con .none)),
  .asg false 4 (.ite (.op3 5 (.var 0) (.con .none) (.con .none)) (.op3 4 (.var 0) (.op2 .mod (.var 3) (.op3 3 (.var 0) (.con .none) (.con .none))) (.con .none)) (.con (.int 0))),
  .asg false 5 (.op2 .mod (.op3 1 (.var 1) (.con .none) (.con .none)) (.con (.int 65536))),
  .tokSet 1 (.op2 .fdiv (.op3 1 (.var 1) (.con .none) (.con .none)) (.con (.int 65536))),
  .asg false 6 (.op2 .mod (.op2 .add (.op2 .add (.var 4) (.op2 .mul (.con (.int 40503)) (.var 5))) (.op2 .mul (.con (.int 104729)) (.var 3))) (.con (.int 4294967291))),
  .asg false 6 (.op2 .mod (.op2 .mul (.op2 .mod (.op2 .mul (.var 6) (.var 6)) (.con (.int 4294967279))) (.con (.int 48271))) (.con (.int 4294967291))),
  .asg false 7 (.op2 .mod (.op2 .mul (.op2 .mod (.op2 .mul (.var 6) (.var 6)) (.con (.int 4294967279))) (.con (.int 69621))) (.con (.int 4294967291))),
  .ret (.op2 .mod (.op2 .add (.op2 .mul (.op2 .fdiv (.var 6) (.con (.int 64))) (.con (.int 67108864))) (.op2 .fdiv (.var 7) (.con (.int 64)))) (.var 2))]⟩
section
variable {Γ : List FnSem} {env : Env} {st : DSt}
theorem step_asg {i : Nat} {e : TK.E} {d : D} {r : List S} (h : ev Γ env e st = some (.ok d, st)) (hi : i < env.length) (hf : frz env (esc e) = env) : exs Γ (.asg false i e :: r) env st = exs Γ r (env.set i (.val d)) st := by
  rw [exs_cons, ex_asg, hf]
  simp [h, setS, hi]
theorem step_ex {s : S} {r : List S} {env1 : Env} {st1 : DSt} (h : ex Γ s env st = some (.ok (.nx, env1), st1)) : exs Γ (s :: r) env st = exs Γ r env1 st1 := by
  rw [exs_cons]
  simp [h]
@[simp] theorem app2_mod (i j : Int) : app2 .mod (.int i) (.int j) = if 0 < j then some (.int (i % j)) else none := rfl
@[simp] theorem app2_fdiv (i j : Int) : app2 .fdiv (.int i) (.int j) = if 0 < j ∧ j < 1073741824 then some (.int (i / j)) else none := rfl
@[simp] theorem app2_mul (i j : Int) : app2 .mul (.int i) (.int j) = if j.natAbs < 2 ^ 63 then some (.int (i * j)) else none := rfl
@[simp] theorem tokOp0 : opTok 0 tok d st = some (.ok (.int st.length), st) := rfl
@[simp] theorem tokOp1 (x : Int) (t : DSt) : opTok 1 tok d (x :: t) = some (.ok (.int x), x :: t) := rfl
@[simp] theorem tokOp2 : opTok 2 tok d st = some (.ok (.bool (!st.isEmpty)), st) := rfl
@[simp] theorem scrOp3 (ns : List Int) : opTok 3 (scr ns) d st = some (.ok (.int (ns.map PyData.int).length), st) := rfl
@[simp] theorem scrOp5 (ns : List Int) : opTok 5 (scr ns) d st = some (.ok (.bool (!(ns.map PyData.int).isEmpty)), st) := rfl
@[simp] theorem scrOp4 (ns : List Int) (j : Int) : opTok 4 (scr ns) (.int j) st = (atI (ns.map PyData.int) j).map fun d => (.ok d, st) := rfl
@[simp] theorem walk_scr (ns : List Int) : walkL .plain [scr ns] = some (ns.map .int) := rfl
@[simp] theorem ex_tokApp (i : Nat) (e : TK.E) : ex Γ (.tokApp i e) env = (liftO (getV env i) >>= fun t => if isTok t then (ev Γ env e >>= fun d => liftO (intOf d) >>= fun n => appTok n >>= fun _ => pure (.nx, env)) else fail) := rfl
@[simp] theorem ex_tokSet (i : Nat) (e : TK.E) : ex Γ (.tokSet i e) env = (liftO (getV env i) >>= fun t => if isTok t then (ev Γ env e >>= fun d => liftO (intOf d) >>= fun n => setTok n >>= fun _ => pure (.nx, env)) else fail) := rfl
@[simp] theorem isTok_tok : isTok tok = true := rfl
@[simp] theorem intOf_int (n : Int) : intOf (.int n) = some n := rfl
@[simp] theorem setTok_cons (n x : Int) (t : DSt) : setTok n (x :: t) = some (.ok (), n :: t) := rfl
theorem appTok_ok {n : Int} (h : st.length < lim) : appTok n st = some (.ok (), st ++ [n]) := by
  unfold appTok
  rw [if_pos h]
end
theorem lim_big : 10000000 < lim := by decide
def absI (i : Int) : Int := if i < 0 then -i else i
theorem max_ok (ns : List Int) : ∃ m, app1 .max (.list (ns.map (fun i => PyData.int (absI i)) ++ [.int 0])) = some (.int m) := by
  have key : ∀ (is : List Int), is ≠ [] → ∃ m, app1 .max (.list (is.map PyData.int)) = some (.int m) := by
    intro is hne
    cases is with
    | nil => exact absurd rfl hne
    | cons x xs =>
      refine ⟨xs.foldl max x, ?_⟩
      have hb : bestOk ((x :: xs).map PyData.int) = true := by
        unfold bestOk
        simp only [Bool.and_eq_true, List.all_eq_true, List.mem_map]
        refine ⟨⟨?_, ?_⟩, ?_⟩
        · rintro _ ⟨a, _, rfl⟩ _ ⟨b, _, rfl⟩; rfl
        · rintro _ ⟨a, _, rfl⟩; rfl
        · rintro _ ⟨a, _, rfl⟩; rfl
      show (if bestOk ((x :: xs).map PyData.int) then some (PySem.W.maxD (.int x) (xs.map .int)) else none) = _
      rw [if_pos hb, PySem.W.maxD_ints]
  have e : ns.map (fun i => PyData.int (absI i)) ++ [.int 0] = (ns.map absI ++ [0]).map PyData.int := by
    rw [List.map_append, List.map_map]
    rfl
  rw [e]
  exact key _ (by simp)
theorem draw_run (ns : List Int) (st : DSt) (many : Int) (hm : 0 < many) (hst : st.length + 2 ≤ 10000000) (hns : ns.length ≤ 1000) :
    ∃ v st', run [] b_draw [scr ns, tok, .int many] st = some (.ok (.int v), st') ∧ 0 ≤ v ∧ v < many ∧ st'.length ≤ st.length + 2 := by
  have hlim := lim_big
  rw [run_ap rfl]
  -- the first statement
  have first : ∃ x t, (x :: t).length ≤ st.length + 1 ∧ ex [] (.ite (.op1 .not (.op3 2 (.var 1) (.con .none) (.con .none))) [.tokApp 1 (.op1 .max (.op2 .add (.comp [4] (.n 4) .plain [.var 0] [] (.op1 .abs (.var 4))) (.lst [.con (.int 0)])))] []) [.val (scr ns), .val tok, .val (.int many), .no, .no, .no, .no, .no] st = some (.ok (.nx, [.val (scr ns), .val tok, .val (.int many), .no, .no, .no, .no, .no]), x :: t) := by
    cases st with
    | cons x t =>
      refine ⟨x, t, by simp, ?_⟩
      simp
    | nil =>
      obtain ⟨m, hm⟩ := max_ok ns
      refine ⟨m, [], by simp, ?_⟩
      have k2 : noX (compL (compF [] [.val (scr ns), .val tok, .val (.int many), .no, .no, .no, .no, .no] [4] (.n 4) [] (.op1 .abs (.var 4))) (ns.map .int)) [] = some (.ok (ns.map fun i => .int (absI i)), []) := by
        refine noX_ok (compL_mapc fun i _ => ?_)
        simp [compF, wipeE, app1, absI]
      have k3 : app2 .add (.list (ns.map fun i => .int (absI i))) (.list [.int 0]) = some (.list (ns.map (fun i => .int (absI i)) ++ [.int 0])) := by
        show (if _ then _ else _) = _
        rw [if_pos]
        rw [List.length_map]
        show ns.length + 1 ≤ lim
        omega
      have k4 : appTok m [] = some (.ok (), [m]) := appTok_ok (by show 0 < lim; omega)
      have k5 : 1 ≤ lim := by omega
      simp [k2, k3, hm, k4, k5]
  obtain ⟨x, t, hlen, hfirst⟩ := first
  have hlen : t.length + 1 ≤ st.length + 1 := hlen
  generalize hk : ((x :: (t ++ [0])).length : Int) = kk
  have hk0 : 0 ≤ kk ∧ kk ≤ 10000001 := by
    have : (x :: (t ++ [0])).length = t.length + 2 := by simp
    omega
  obtain ⟨cell, hcell⟩ : ∃ cell : Int, ev [] [.val (scr ns), .val tok, .val (.int many), .val (.int kk), .no, .no, .no, .no] (.ite (.op3 5 (.var 0) (.con .none) (.con .none)) (.op3 4 (.var 0) (.op2 .mod (.var 3) (.op3 3 (.var 0) (.con .none) (.con .none))) (.con .none)) (.con (.int 0))) (x :: (t ++ [0])) = some (.ok (.int cell), x :: (t ++ [0])) := by
    cases hn : ns with
    | nil => exact ⟨0, by simp⟩
    | cons n0 r0 =>
      rw [← hn]
      have hposN : 0 < ns.length := by rw [hn]; simp
      have hpos : 0 < (ns.length : Int) := by omega
      have h1 := Int.emod_nonneg kk (show (ns.length : Int) ≠ 0 by omega)
      have h2 := Int.emod_lt_of_pos kk hpos
      have hlt : (kk % (ns.length : Int)).toNat < ns.length := by omega
      refine ⟨ns[(kk % (ns.length : Int)).toNat], ?_⟩
      have ha : atI (ns.map PyData.int) (kk % (ns.length : Int)) = some (.int ns[(kk % (ns.length : Int)).toNat]) := by
        unfold atI ixN
        rw [List.length_map, if_pos h1, if_pos h2]
        show (ns.map PyData.int)[(kk % (ns.length : Int)).toNat]? = _
        rw [List.getElem?_map, List.getElem?_eq_getElem hlt]
        rfl
      have hne : ns ≠ [] := by rw [hn]; simp
      simp [ha, hposN, hne]
  have hst2 : appTok 0 (x :: t) = some (.ok (), x :: (t ++ [0])) := appTok_ok (by show t.length + 1 < lim; omega)
  have hd := Int.emod_nonneg x (show (65536 : Int) ≠ 0 by decide)
  have hd2 := Int.emod_lt_of_pos x (show (0 : Int) < 65536 by decide)
  generalize hdig : x % 65536 = dig at hd hd2
  generalize hdv : x / 65536 = x1
  generalize hn1 : (cell + 40503 * dig + 104729 * kk) % 4294967291 = num1
  have n1a : 0 ≤ num1 := by rw [← hn1]; exact Int.emod_nonneg _ (by decide)
  have n1b : num1 < 4294967291 := by rw [← hn1]; exact Int.emod_lt_of_pos _ (by decide)
  generalize hn2 : num1 * num1 % 4294967279 * 48271 % 4294967291 = num2
  have n2a : 0 ≤ num2 := by rw [← hn2]; exact Int.emod_nonneg _ (by decide)
  have n2b : num2 < 4294967291 := by rw [← hn2]; exact Int.emod_lt_of_pos _ (by decide)
  generalize hmo : num2 * num2 % 4294967279 * 69621 % 4294967291 = more
  refine ⟨(num2 / 64 * 67108864 + more / 64) % many, x1 :: (t ++ [0]), ?_, Int.emod_nonneg _ (by omega), Int.emod_lt_of_pos _ hm, by simp; omega⟩
  have e1 : dig.natAbs < 9223372036854775808 := by omega
  have e2 : kk.natAbs < 9223372036854775808 := by omega
  have e3 : num1.natAbs < 9223372036854775808 := by omega
  have e4 : num2.natAbs < 9223372036854775808 := by omega
  have e5 : 0 < many := hm
  have hs2 : ex [] (.tokApp 1 (.con (.int 0))) [.val (scr ns), .val tok, .val (.int many), .no, .no, .no, .no, .no] (x :: t) = some (.ok (.nx, [.val (scr ns), .val tok, .val (.int many), .no, .no, .no, .no, .no]), x :: (t ++ [0])) := by
    simp [hst2]
  have hs3 : ev [] [.val (scr ns), .val tok, .val (.int many), .no, .no, .no, .no, .no] (.op3 0 (.var 1) (.con .none) (.con .none)) (x :: (t ++ [0])) = some (.ok (.int kk), x :: (t ++ [0])) := by
    rw [← hk]; simp
  have hs5 : ev [] [.val (scr ns), .val tok, .val (.int many), .val (.int kk), .val (.int cell), .no, .no, .no] (.op2 .mod (.op3 1 (.var 1) (.con .none) (.con .none)) (.con (.int 65536))) (x :: (t ++ [0])) = some (.ok (.int dig), x :: (t ++ [0])) := by
    simp [hdig]
  have hs6 : ex [] (.tokSet 1 (.op2 .fdiv (.op3 1 (.var 1) (.con .none) (.con .none)) (.con (.int 65536)))) [.val (scr ns), .val tok, .val (.int many), .val (.int kk), .val (.int cell), .val (.int dig), .no, .no] (x :: (t ++ [0])) = some (.ok (.nx, [.val (scr ns), .val tok, .val (.int many), .val (.int kk), .val (.int cell), .val (.int dig), .no, .no]), x1 :: (t ++ [0])) := by
    simp [hdv]
  have hs7 : ev [] [.val (scr ns), .val tok, .val (.int many), .val (.int kk), .val (.int cell), .val (.int dig), .no, .no] (.op2 .mod (.op2 .add (.op2 .add (.var 4) (.op2 .mul (.con (.int 40503)) (.var 5))) (.op2 .mul (.con (.int 104729)) (.var 3))) (.con (.int 4294967291))) (x1 :: (t ++ [0])) = some (.ok (.int num1), x1 :: (t ++ [0])) := by
    simp [e1, e2, hn1]
  have hs8 : ev [] [.val (scr ns), .val tok, .val (.int many), .val (.int kk), .val (.int cell), .val (.int dig), .val (.int num1), .no] (.op2 .mod (.op2 .mul (.op2 .mod (.op2 .mul (.var 6) (.var 6)) (.con (.int 4294967279))) (.con (.int 48271))) (.con (.int 4294967291))) (x1 :: (t ++ [0])) = some (.ok (.int num2), x1 :: (t ++ [0])) := by
    simp [e3, hn2]
  have hs9 : ev [] [.val (scr ns), .val tok, .val (.int many), .val (.int kk), .val (.int cell), .val (.int dig), .val (.int num2), .no] (.op2 .mod (.op2 .mul (.op2 .mod (.op2 .mul (.var 6) (.var 6)) (.con (.int 4294967279))) (.con (.int 69621))) (.con (.int 4294967291))) (x1 :: (t ++ [0])) = some (.ok (.int more), x1 :: (t ++ [0])) := by
    simp [e4, hmo]
  have hall : exs [] b_draw.body [.val (scr ns), .val tok, .val (.int many), .no, .no, .no, .no, .no] st = some (.ok (.rt (.int ((num2 / 64 * 67108864 + more / 64) % many)), [.val (scr ns), .val tok, .val (.int many), .val (.int kk), .val (.int cell), .val (.int dig), .val (.int num2), .val (.int more)]), x1 :: (t ++ [0])) := by
    unfold b_draw
    refine (step_ex hfirst).trans ?_
    refine (step_ex hs2).trans ?_
    refine (step_asg hs3 (by simp) rfl).trans ?_
    refine (step_asg hcell (by simp) rfl).trans ?_
    refine (step_asg hs5 (by simp) rfl).trans ?_
    refine (step_ex hs6).trans ?_
    refine (step_asg hs7 (by simp) rfl).trans ?_
    refine (step_asg hs8 (by simp) rfl).trans ?_
    refine (step_asg hs9 (by simp) rfl).trans ?_
    simp [esc, escB, e5]
  have hall2 : exs [] b_draw.body ([scr ns, tok, .int many].map .val ++ List.replicate (b_draw.nl - b_draw.np) .no) st = _ := hall
  rw [hall2]
def drawF : FnSem := run [] b_draw
/-- x ends well, whatever the draws' list (not too long) is; the list grows by at most c -/
def Runs (x : M D) (P : D → Prop) (c : Nat) : Prop := ∀ st : DSt, st.length + c ≤ 10000000 → ∃ d st', x st = some (.ok d, st') ∧ P d ∧ st'.length ≤ st.length + c
theorem draw_runs (ns : List Int) (hns : ns.length ≤ 1000) {many : Int} (hm : 0 < many) : Runs (drawF [scr ns, tok, .int many]) (fun d => ∃ v, d = .int v ∧ 0 ≤ v ∧ v < many) 2 := fun st hst => by
  obtain ⟨v, st', h1, h2, h3, h4⟩ := draw_run ns st many hm hst hns
  exact ⟨_, st', h1, ⟨v, rfl, h2, h3⟩, h4⟩
def b_pick : Fn := ⟨3, 3, [.ret (.op2 .ix (.var 2) (.call 0 [.var 0, .var 1, .op1 .len (.var 2)]))]⟩
def pickF : FnSem := run [drawF] b_pick
theorem pick_runs (ns : List Int) (hns : ns.length ≤ 1000) {l : List D} (hl : l ≠ []) : Runs (pickF [scr ns, tok, .list l]) (fun d => d ∈ l) 2 := fun st hst => by
  have hpos : 0 < l.length := List.length_pos_iff.mpr hl
  obtain ⟨d, st', h1, ⟨v, rfl, h2, h3⟩, h4⟩ := draw_runs ns hns (many := (l.length : Int)) (by omega) st hst
  have hlt : v.toNat < l.length := by omega
  refine ⟨l[v.toNat], st', ?_, List.getElem_mem hlt, h4⟩
  have ha : atI l v = some l[v.toNat] := by
    unfold atI ixN
    rw [if_pos h2, if_pos h3]
    show l[v.toNat]? = _
    rw [List.getElem?_eq_getElem hlt]
  unfold pickF
  rw [run_ap rfl]
  simp [b_pick, esc, escs, escB, h1, ha]
def b_shuf : Fn := ⟨3, 5, [.par [(3, true), (4, true)] [.op1 .listOf (.var 2), .lst []],
  .while (.var 3) [.appPop 4 3 (.call 0 [.var 0, .var 1, .op1 .len (.var 3)])],
  .ret (.var 4)]⟩
def shufF : FnSem := run [drawF] b_shuf
theorem shuf_turn (ns : List Int) (hns : ns.length ≤ 1000) (z0 : D) (rest found : List D) (hr : rest ≠ []) (hb : rest.length + found.length ≤ 1000) (st : DSt) (hst : st.length + 2 ≤ 10000000) :
    ∃ i st', ∃ h : i < rest.length, st'.length ≤ st.length + 2 ∧ exs [drawF] [.appPop 4 3 (.call 0 [.var 0, .var 1, .op1 .len (.var 3)])] [.val (scr ns), .val tok, .val z0, .own (.list rest), .own (.list found)] st = some (.ok (.nx, [.val (scr ns), .val tok, .val z0, .own (.list (rest.eraseIdx i)), .own (.list (found ++ [rest[i]]))]), st') := by
  have hpos : 0 < rest.length := List.length_pos_iff.mpr hr
  obtain ⟨d, st', h1, ⟨v, rfl, h2, h3⟩, h4⟩ := draw_runs ns hns (many := (rest.length : Int)) (by omega) st hst
  have hlt : v.toNat < rest.length := by omega
  refine ⟨v.toNat, st', hlt, h4, ?_⟩
  have hlim := lim_big
  have hev : ev [drawF] [.val (scr ns), .val tok, .val z0, .own (.list rest), .own (.list found)] (.call 0 [.var 0, .var 1, .op1 .len (.var 3)]) st = some (.ok (.int v), st') := by
    simp [h1]
  have hone : ex [drawF] (.appPop 4 3 (.call 0 [.var 0, .var 1, .op1 .len (.var 3)])) [.val (scr ns), .val tok, .val z0, .own (.list rest), .own (.list found)] st = some (.ok (.nx, [.val (scr ns), .val tok, .val z0, .own (.list (rest.eraseIdx v.toNat)), .own (.list (found ++ [rest[v.toNat]]))]), st') := by
    show (liftO (some found) >>= fun l => liftO (some rest) >>= fun m => ev [drawF] [.val (scr ns), .val tok, .val z0, .own (.list rest), .own (.list found)] (.call 0 [.var 0, .var 1, .op1 .len (.var 3)]) >>= fun d => (match d with
      | .int n => if 0 ≤ n ∧ n < 1000000000 ∧ l.length < lim ∧ (4 : Nat) ≠ 3 then (match m[n.toNat]? with
          | some x => (pure (.nx, (([.val (scr ns), .val tok, .val z0, .own (.list rest), .own (.list found)] : Env).set 3 (.own (.list (m.eraseIdx n.toNat)))).set 4 (.own (.list (l ++ [x])))) : M (Fl × Env))
          | none => fail) else fail
      | _ => fail)) st = _
    rw [liftO_some, liftO_some, pure_bind', pure_bind', bind_eq hev]
    simp only []
    rw [if_pos ⟨h2, by omega, by omega, by decide⟩, List.getElem?_eq_getElem hlt]
    rfl
  exact (step_ex hone).trans rfl
theorem perm_erase {α : Type} : ∀ {l : List α} {j : Nat} (h : j < l.length), ([l[j]] ++ l.eraseIdx j).Perm l
  | a :: l, 0, _ => List.Perm.refl _
  | a :: l, j + 1, h => by
    have h' : j < l.length := by simpa using h
    have ih := perm_erase (l := l) (j := j) h'
    exact (List.Perm.swap a l[j] (l.eraseIdx j)).trans (List.Perm.cons a ih)
theorem shuf_loop (ns : List Int) (hns : ns.length ≤ 1000) (z0 : D) : ∀ (n : Nat) (rest found : List D) (st : DSt) (fu : Nat), rest.length = n → n < fu → rest.length + found.length ≤ 1000 → st.length + 2 * n ≤ 10000000 →
    ∃ out st', out.Perm (found ++ rest) ∧ st'.length ≤ st.length + 2 * n ∧ whL (tst [drawF] (.var 3)) (exs [drawF] [.appPop 4 3 (.call 0 [.var 0, .var 1, .op1 .len (.var 3)])]) fu [.val (scr ns), .val tok, .val z0, .own (.list rest), .own (.list found)] st = some (.ok (.nx, [.val (scr ns), .val tok, .val z0, .own (.list []), .own (.list out)]), st')
  | 0, rest, found, st, fu + 1, hn, _, _, _ => by
    obtain rfl := List.length_eq_zero_iff.mp hn
    refine ⟨found, st, by simp, by omega, ?_⟩
    rw [whL]
    simp
  | n + 1, rest, found, st, fu + 1, hn, hfu, hb, hst => by
    have hr : rest ≠ [] := fun e => by rw [e] at hn; cases hn
    obtain ⟨j, st1, hj, hl1, hx⟩ := shuf_turn ns hns z0 rest found hr hb st (by omega)
    have hlen : (rest.eraseIdx j).length = n := by rw [List.length_eraseIdx_of_lt hj]; omega
    obtain ⟨out, st2, hp, hl2, hw⟩ := shuf_loop ns hns z0 n (rest.eraseIdx j) (found ++ [rest[j]]) st1 fu hlen (by omega) (by rw [hlen, List.length_append, List.length_singleton]; omega) (by omega)
    refine ⟨out, st2, hp.trans ?_, by omega, ?_⟩
    · rw [List.append_assoc]
      refine List.Perm.append_left found ?_
      exact perm_erase hj
    · have ht : tst [drawF] (.var 3) [.val (scr ns), .val tok, .val z0, .own (.list rest), .own (.list found)] st = some (.ok true, st) := by
        have : rest.isEmpty = false := by cases rest with | nil => exact absurd rfl hr | cons _ _ => rfl
        simp [this, hr]
      show (tst [drawF] (.var 3) _ >>= fun k => if k then (exs [drawF] [.appPop 4 3 (.call 0 [.var 0, .var 1, .op1 .len (.var 3)])] _ >>= fun p => match p.1 with | .nx => whL (tst [drawF] (.var 3)) (exs [drawF] [.appPop 4 3 (.call 0 [.var 0, .var 1, .op1 .len (.var 3)])]) fu p.2 | .rt v => (pure (.rt v, p.2) : M (Fl × Env))) else pure (.nx, _)) st = _
      rw [bind_eq ht, if_pos rfl, bind_eq hx]
      exact hw
theorem shuf_runs (ns : List Int) (hns : ns.length ≤ 1000) {l : List D} (hl : l.length ≤ 1000) : Runs (shufF [scr ns, tok, .list l]) (fun d => ∃ r, d = .list r ∧ r.Perm l) (2 * l.length) := fun st hst => by
  obtain ⟨out, st', hp, hl2, hw⟩ := shuf_loop ns hns (.list l) l.length l [] st fuel rfl (by show l.length < 1000000; omega) (by simpa using hl) hst
  refine ⟨.list out, st', ?_, ⟨out, rfl, by simpa using hp⟩, hl2⟩
  unfold shufF
  rw [run_ap rfl]
  have h1 : ex [drawF] (.par [(3, true), (4, true)] [.op1 .listOf (.var 2), .lst []]) [.val (scr ns), .val tok, .val (.list l), .no, .no] st = some (.ok (.nx, [.val (scr ns), .val tok, .val (.list l), .own (.list l), .own (.list [])]), st) := by
    rfl
  have h2 : ex [drawF] (.while (.var 3) [.appPop 4 3 (.call 0 [.var 0, .var 1, .op1 .len (.var 3)])]) [.val (scr ns), .val tok, .val (.list l), .own (.list l), .own (.list [])] st = some (.ok (.nx, [.val (scr ns), .val tok, .val (.list l), .own (.list []), .own (.list out)]), st') := hw
  have h3 : exs [drawF] b_shuf.body [.val (scr ns), .val tok, .val (.list l), .no, .no] st = some (.ok (.rt (.list out), [.val (scr ns), .val tok, .val (.list l), .own (.list []), .val (.list out)]), st') := by
    unfold b_shuf
    refine (step_ex h1).trans ?_
    refine (step_ex h2).trans ?_
    simp [esc]
  have h4 : exs [drawF] b_shuf.body ([scr ns, tok, .list l].map .val ++ List.replicate (b_shuf.nl - b_shuf.np) .no) st = _ := h3
  rw [h4]
end TK
namespace TK
open PySem L2
def ltS (a b : Str) : Bool := decide (a.cps.toList < b.cps.toList)
def ascS : List Str → Bool
  | a :: b :: r => ltS a b && ascS (b :: r)
  | _ => true
theorem ltS_trans {a b c : Str} (h1 : ltS a b = true) (h2 : ltS b c = true) : ltS a c = true := by
  simp only [ltS, decide_eq_true_eq] at *
  exact Std.lt_trans h1 h2
theorem ltS_irrefl (a : Str) : ltS a a = false := by
  simp only [ltS, decide_eq_false_iff_not]
  exact Std.lt_irrefl
theorem ltS_le {a b : Str} (h : ltS a b = true) : strLE a b = true := by
  simp only [ltS, strLE, decide_eq_true_eq] at *
  exact Std.le_of_lt h
theorem ltS_of {a b : Str} (h : strLE a b = true) (ne : a ≠ b) : ltS a b = true := by
  simp only [ltS, strLE, decide_eq_true_eq] at *
  refine Std.not_le.mp fun h2 => ne (str_ext (Std.le_antisymm h h2))
theorem asc_pair : ∀ {l : List Str}, ascS l = true → l.Pairwise fun a b => ltS a b = true
  | [], _ => .nil
  | [a], _ => List.pairwise_singleton _ _
  | a :: b :: r, h => by
    simp only [ascS, Bool.and_eq_true] at h
    have ih := asc_pair h.2
    refine List.pairwise_cons.mpr ⟨fun x hx => ?_, ih⟩
    rcases List.mem_cons.mp hx with rfl | hx
    · exact h.1
    · exact ltS_trans h.1 ((List.pairwise_cons.mp ih).1 x hx)
theorem pair_asc : ∀ {l : List Str}, (l.Pairwise fun a b => ltS a b = true) → ascS l = true
  | [], _ => rfl
  | [a], _ => rfl
  | a :: b :: r, h => by
    have h' := List.pairwise_cons.mp h
    simp only [ascS, Bool.and_eq_true]
    exact ⟨h'.1 b List.mem_cons_self, pair_asc h'.2⟩
theorem dep_strs (n : Nat) (l : List Str) : dep (n + 1) (.list (l.map .str)) = true := by
  show (l.map PyData.str).all (dep n) = true
  rw [List.all_eq_true]
  intro x hx
  rw [List.mem_map] at hx
  obtain ⟨s, _, rfl⟩ := hx
  cases n <;> rfl
theorem strsOf_map : ∀ (l : List Str), strsOf (l.map .str) = some l
  | [] => rfl
  | a :: l => by rw [List.map_cons, strsOf, strsOf_map l]; rfl
theorem cut1 {α : Type} (l : List α) : cut l (some 1) none = l.drop 1 := by
  unfold cut
  rw [HT.sIx_none]
  have : HT.sIx l.length 0 (some 1) = min 1 l.length := HT.sIx_nat l.length 0 1
  rw [this]
  cases l with
  | nil => rfl
  | cons a r =>
    have : min 1 (a :: r).length = 1 := by simp
    rw [this]
    exact List.take_of_length_le (by simp)
theorem ltD_str (a b : Str) : ltD (.str a) (.str b) = some (ltS a b) := by
  unfold ltD ltS
  rw [PySem.W.dataLt_str]
  rfl
theorem boolsOf_map {α : Type} (g : α → Bool) : ∀ l : List α, boolsOf (l.map fun a => .bool (g a)) = some (l.map g)
  | [] => rfl
  | a :: l => by rw [List.map_cons, boolsOf, boolsOf_map g l]; rfl
theorem asc_zip : ∀ (l : List Str), ((l.zip (l.drop 1)).map fun p => ltS p.1 p.2).all id = ascS l
  | [] => rfl
  | [a] => rfl
  | a :: b :: r => by
    have := asc_zip (b :: r)
    simp only [List.drop_succ_cons, List.drop_zero, List.zip_cons_cons, List.map_cons, List.all_cons, id_eq, ascS] at this ⊢
    rw [← this]
theorem asc_zip' (l : List Str) : ((l.zip (l.drop 1)).all fun p => ltS p.1 p.2) = ascS l := by
  rw [← asc_zip, List.all_map]
  rfl
theorem zip_strs (l m : List Str) : ((l.map PyData.str).zip (m.map PyData.str)).map (fun p => PyData.tuple [p.1, p.2]) = (l.zip m).map fun p => .tuple [.str p.1, .str p.2] := by
  rw [List.zip_map, List.map_map]
  rfl
end TK
namespace TK
open PySem L2
section
variable {Γ : List FnSem} {env : Env} {α β σ τ : Type}
def retM : Fl × Env → M D
  | (.rt d, _) => pure d
  | (.nx, _) => pure .none
@[simp] theorem retM_rt (d : D) (e : Env) : retM (.rt d, e) = pure d := rfl
@[simp] theorem retM_nx (e : Env) : retM (.nx, e) = pure .none := rfl
theorem run_eq {fn : Fn} {ds : List D} (h : ds.length = fn.np) : run Γ fn ds = (exs Γ fn.body (ds.map .val ++ List.replicate (fn.nl - fn.np) .no) >>= retM) := by
  unfold run
  rw [if_pos h]
  congr 1
  funext p
  obtain ⟨fl, e⟩ := p
  cases fl <;> rfl
theorem bind_pure' (x : M α) : (x >>= fun a => (pure a : M α)) = x := by
  funext st
  show M.bnd x (fun a => M.ret a) st = x st
  unfold M.bnd
  cases x st with
  | none => rfl
  | some p =>
    obtain ⟨r, s⟩ := p
    cases r <;> rfl
@[simp] theorem ite_bind' (p : Prop) [Decidable p] (x y : M α) (f : α → M β) : ((if p then x else y) >>= f) = if p then x >>= f else y >>= f := by split <;> rfl
@[simp] theorem ite_some (p : Prop) [Decidable p] (x : D) : (if p then (pure (some x) : M (Option D)) else pure none) = pure (if p then some x else none) := by split <;> rfl
@[simp] theorem ite_none (p : Prop) [Decidable p] (x : D) : (if p then (pure none : M (Option D)) else pure (some x)) = pure (if p then none else some x) := by split <;> rfl
@[simp] theorem ite_bool (p : Prop) [Decidable p] (a b : Bool) : (if p then (pure (.bool a) : M D) else pure (.bool b)) = pure (.bool (if p then a else b)) := by split <;> rfl
@[simp] theorem ite_tf (p : Prop) [Decidable p] (a b : Bool) : (if p then (pure a : M Bool) else pure b) = pure (if p then a else b) := by split <;> rfl
@[simp] theorem ite_b_tf (c : Bool) : (if c = true then true else false) = c := by cases c <;> rfl
def compA (F : α → M (Option D)) : List α → M (List D)
  | [] => pure []
  | a :: r => F a >>= fun o => compA F r >>= fun rest => pure (match o with | some x => x :: rest | none => rest)
theorem compL_A (F : D → M (Option D)) (h : α → D) : ∀ l : List α, compL F (l.map h) = compA (fun a => F (h a)) l
  | [] => rfl
  | a :: r => by
    show (F (h a) >>= fun o => compL F (r.map h) >>= fun rest => _) = _
    rw [compL_A F h r]
    rfl
theorem compA_pure {F : α → M (Option D)} {g : α → Option D} : ∀ {l : List α}, (∀ a ∈ l, F a = pure (g a)) → compA F l = pure (l.filterMap g)
  | [], _ => rfl
  | a :: r, h => by
    show (F a >>= fun o => compA F r >>= fun rest => pure (match o with | some x => x :: rest | none => rest)) = _
    rw [h a List.mem_cons_self, pure_bind', compA_pure fun x hx => h x (List.mem_cons_of_mem _ hx), pure_bind']
    cases e : g a with
    | none => rw [List.filterMap_cons_none e]
    | some x => rw [List.filterMap_cons_some e]
theorem compA_map {F : α → M (Option D)} {g : α → D} {l : List α} (h : ∀ a ∈ l, F a = pure (some (g a))) : compA F l = pure (l.map g) := by
  rw [compA_pure (g := fun a => some (g a)) h, List.filterMap_eq_map']
theorem compA_filter {F : α → M (Option D)} {g : α → D} {p : α → Bool} : ∀ {l : List α}, (∀ a ∈ l, F a = pure (if p a = true then some (g a) else none)) → compA F l = pure ((l.filter p).map g)
  | [], _ => rfl
  | a :: r, h => by
    show (F a >>= fun o => compA F r >>= fun rest => pure (match o with | some x => x :: rest | none => rest)) = _
    rw [h a List.mem_cons_self, pure_bind', compA_filter fun x hx => h x (List.mem_cons_of_mem _ hx), pure_bind']
    by_cases e : p a = true
    · rw [if_pos e, List.filter_cons_of_pos e]; rfl
    · rw [if_neg e, List.filter_cons_of_neg e]
@[simp] theorem noX_pure (a : α) : noX (pure a : M α) = pure a := rfl
/-- a comprehension over items that are made of a list -/
theorem comp_map {F : D → M (Option D)} {h : α → D} {l : List α} (g : α → D) (hF : ∀ a ∈ l, F (h a) = pure (some (g a))) : noX (compL F (l.map h)) = pure (l.map g) := by
  rw [compL_A, compA_map hF]; rfl
theorem comp_filter {F : D → M (Option D)} {h : α → D} {l : List α} (p : α → Bool) (g : α → D) (hF : ∀ a ∈ l, F (h a) = pure (if p a = true then some (g a) else none)) : noX (compL F (l.map h)) = pure ((l.filter p).map g) := by
  rw [compL_A, compA_filter hF]; rfl
theorem comp_mapB {F : D → M (Option D)} {h : α → D} {l : List α} {R : M β} {k : List D → M β} (g : α → D) (hF : ∀ a ∈ l, F (h a) = pure (some (g a))) (hk : k (l.map g) = R) : (noX (compL F (l.map h)) >>= k) = R := by
  rw [comp_map g hF]; exact hk
theorem comp_filterB {F : D → M (Option D)} {h : α → D} {l : List α} {R : M β} {k : List D → M β} (p : α → Bool) (g : α → D) (hF : ∀ a ∈ l, F (h a) = pure (if p a = true then some (g a) else none)) (hk : k ((l.filter p).map g) = R) : (noX (compL F (l.map h)) >>= k) = R := by
  rw [comp_filter p g hF]; exact hk
theorem comp_mapDB {F : D → M (Option D)} {l : List D} {R : M β} {k : List D → M β} (g : D → D) (hF : ∀ a ∈ l, F a = pure (some (g a))) (hk : k (l.map g) = R) : (noX (compL F l) >>= k) = R := by
  have := comp_map (F := F) (h := id) (l := l) g hF
  rw [List.map_id] at this
  rw [this]; exact hk
def comp2I (Γ : List FnSem) (own1 : List Nat) (tg1 : Tg) (conds : List TK.E) (elt : TK.E) (env1 : Env) (d1 : D) : M (Option D) :=
  liftO (asgT tg1 d1 (wipeE env1 own1)) >>= fun env2 => evc Γ env2 conds >>= fun b => if b then ev Γ env2 elt >>= fun x => pure (some x) else pure none
def comp2F (Γ : List FnSem) (env : Env) (own : List Nat) (tg : Tg) (own1 : List Nat) (tg1 : Tg) (k1 : IK) (src1 conds : List TK.E) (elt : TK.E) (d : D) : M (Option D) :=
  liftO (asgT tg d (wipeE env (own ++ own1))) >>= fun env1 => evs Γ env1 src1 >>= fun ds1 => liftO (walkL k1 ds1) >>= fun items1 => compL (comp2I Γ own1 tg1 conds elt env1) items1 >>= fun out => pure (some (.list out))
@[simp] theorem ev_comp2 (own : List Nat) (tg : Tg) (k : IK) (src : List TK.E) (own1 : List Nat) (tg1 : Tg) (k1 : IK) (src1 conds : List TK.E) (elt : TK.E) : ev Γ env (.comp2 own tg k src own1 tg1 k1 src1 conds elt) = (evsB Γ env src >>= fun ds => liftO (walkL k ds) >>= fun items => noX (compL (comp2F Γ env own tg own1 tg1 k1 src1 conds elt) items) >>= fun out => if (flatD out).length ≤ lim then pure (.list (flatD out)) else fail) := rfl
theorem compL_mapE {F : D → M (Option D)} {h : α → D} {l : List α} (g : α → D) (hF : ∀ a ∈ l, F (h a) = pure (some (g a))) : compL F (l.map h) = pure (l.map g) := by
  rw [compL_A, compA_map hF]
def stepM (tg : Tg) (b : Env → M (Fl × Env)) (r : List D) : Fl × Env → M (Fl × Env)
  | (.nx, e) => forL tg b r e
  | (.rt v, e) => pure (.rt v, e)
@[simp] theorem forL_nil (tg : Tg) (b : Env → M (Fl × Env)) : forL tg b [] env = pure (.nx, env) := rfl
theorem forL_cons (tg : Tg) (b : Env → M (Fl × Env)) (d : D) (r : List D) : forL tg b (d :: r) env = (liftO (asgT tg d env) >>= fun e => b e >>= stepM tg b r) := by
  show (liftO (asgT tg d env) >>= fun e => b e >>= _) = _
  congr 1
  funext e
  congr 1
  funext p
  obtain ⟨fl, e⟩ := p
  cases fl <;> rfl
/-- the slots by what was walked so far -/
theorem forL_preB {tg : Tg} {b : Env → M (Fl × Env)} {h : α → D} {l : List α} {k : Fl × Env → M β} {R : M β} {env : Env} (E : List α → τ → Env) (t : τ) (he : env = E [] t)
    (hs : ∀ done a rest, l = done ++ a :: rest → ∀ t, ∃ e t', asgT tg (h a) (E done t) = some e ∧ b e = pure (.nx, E (done ++ [a]) t'))
    (hk : ∀ t', k (.nx, E l t') = R) : (forL tg b (l.map h) env >>= k) = R := by
  subst he
  have key : ∀ (r done : List α) (t : τ), l = done ++ r → ∃ t', forL tg b (r.map h) (E done t) = pure (.nx, E l t') := by
    intro r
    induction r with
    | nil => exact fun done t e => ⟨t, by rw [e, List.append_nil]; rfl⟩
    | cons a r ih =>
      intro done t e
      obtain ⟨e1, t1, h1, h2⟩ := hs done a r e t
      obtain ⟨t2, h3⟩ := ih (done ++ [a]) t1 (by rw [e]; simp)
      refine ⟨t2, ?_⟩
      rw [List.map_cons, forL_cons, h1, liftO_some, pure_bind', h2, pure_bind']
      exact h3
  obtain ⟨t', e⟩ := key l [] t rfl
  rw [e, pure_bind']
  exact hk t'
@[simp] theorem stepM_nx (tg : Tg) (b : Env → M (Fl × Env)) (r : List D) (e : Env) : stepM tg b r (.nx, e) = forL tg b r e := rfl
@[simp] theorem stepM_rt (tg : Tg) (b : Env → M (Fl × Env)) (r : List D) (e : Env) (v : D) : stepM tg b r (.rt v, e) = pure (.rt v, e) := rfl
@[simp] theorem esc_con (d : D) : esc (.con d) = [] := rfl
@[simp] theorem esc_var (i : Nat) : esc (.var i) = [i] := rfl
@[simp] theorem esc_tup (es : List TK.E) : esc (.tup es) = escs es := rfl
@[simp] theorem esc_lst (es : List TK.E) : esc (.lst es) = escs es := rfl
@[simp] theorem esc_op1 (o : O1) (a : TK.E) : esc (.op1 o a) = escB a := rfl
@[simp] theorem esc_op2 (o : O2) (a b : TK.E) : esc (.op2 o a b) = escB a ++ escB b := rfl
@[simp] theorem esc_chain (o o2 : O2) (a b c : TK.E) : esc (.chain o o2 a b c) = escB a ++ escB b ++ escB c := rfl
@[simp] theorem esc_and (a b : TK.E) : esc (.and a b) = esc a ++ esc b := rfl
@[simp] theorem esc_or (a b : TK.E) : esc (.or a b) = esc a ++ esc b := rfl
@[simp] theorem esc_ite (c a b : TK.E) : esc (.ite c a b) = escB c ++ esc a ++ esc b := rfl
@[simp] theorem esc_slc (a : TK.E) (lo hi : Option TK.E) : esc (.slc a lo hi) = escB a ++ esco lo ++ esco hi := rfl
@[simp] theorem esc_call (j : Nat) (es : List TK.E) : esc (.call j es) = escs es := rfl
@[simp] theorem esc_comp (own : List Nat) (tg : Tg) (k : IK) (src conds : List TK.E) (elt : TK.E) : esc (.comp own tg k src conds elt) = escsB src ++ (escs conds ++ esc elt).filter fun i => !own.contains i := rfl
@[simp] theorem esc_compX (own : List Nat) (tg : Tg) (k : IK) (src conds : List TK.E) (elt : TK.E) : esc (.compX own tg k src conds elt) = escsB src ++ (escs conds ++ esc elt).filter fun i => !own.contains i := rfl
@[simp] theorem esc_dict (t : Bool) (ks vs : List TK.E) : esc (.dict t ks vs) = escs ks ++ escs vs := rfl
@[simp] theorem esc_get (a b : TK.E) (c : D) : esc (.get a b c) = escB a ++ escB b := rfl
@[simp] theorem esc_idx (a b : TK.E) : esc (.idx a b) = escB a ++ escB b := rfl
@[simp] theorem escB_idx (a b : TK.E) : escB (.idx a b) = escB a ++ escB b := rfl
@[simp] theorem esc_comp2 (own : List Nat) (tg : Tg) (k : IK) (src : List TK.E) (own1 : List Nat) (tg1 : Tg) (k1 : IK) (src1 conds : List TK.E) (elt : TK.E) : esc (.comp2 own tg k src own1 tg1 k1 src1 conds elt) = escsB src ++ (escs src1 ++ escs conds ++ esc elt).filter fun i => !(own ++ own1).contains i := rfl
@[simp] theorem escB_comp2 (own : List Nat) (tg : Tg) (k : IK) (src : List TK.E) (own1 : List Nat) (tg1 : Tg) (k1 : IK) (src1 conds : List TK.E) (elt : TK.E) : escB (.comp2 own tg k src own1 tg1 k1 src1 conds elt) = escsB src ++ (escs src1 ++ escs conds ++ esc elt).filter fun i => !(own ++ own1).contains i := rfl
@[simp] theorem escB_con (d : D) : escB (.con d) = [] := rfl
@[simp] theorem escB_var (i : Nat) : escB (.var i) = [] := rfl
@[simp] theorem escB_tup (es : List TK.E) : escB (.tup es) = escs es := rfl
@[simp] theorem escB_lst (es : List TK.E) : escB (.lst es) = escs es := rfl
@[simp] theorem escB_op1 (o : O1) (a : TK.E) : escB (.op1 o a) = escB a := rfl
@[simp] theorem escB_op2 (o : O2) (a b : TK.E) : escB (.op2 o a b) = escB a ++ escB b := rfl
@[simp] theorem escB_chain (o o2 : O2) (a b c : TK.E) : escB (.chain o o2 a b c) = escB a ++ escB b ++ escB c := rfl
@[simp] theorem escB_and (a b : TK.E) : escB (.and a b) = esc a ++ esc b := rfl
@[simp] theorem escB_or (a b : TK.E) : escB (.or a b) = esc a ++ esc b := rfl
@[simp] theorem escB_ite (c a b : TK.E) : escB (.ite c a b) = escB c ++ esc a ++ esc b := rfl
@[simp] theorem escB_slc (a : TK.E) (lo hi : Option TK.E) : escB (.slc a lo hi) = escB a ++ esco lo ++ esco hi := rfl
@[simp] theorem escB_call (j : Nat) (es : List TK.E) : escB (.call j es) = escs es := rfl
@[simp] theorem escB_comp (own : List Nat) (tg : Tg) (k : IK) (src conds : List TK.E) (elt : TK.E) : escB (.comp own tg k src conds elt) = escsB src ++ (escs conds ++ esc elt).filter fun i => !own.contains i := rfl
@[simp] theorem escB_compX (own : List Nat) (tg : Tg) (k : IK) (src conds : List TK.E) (elt : TK.E) : escB (.compX own tg k src conds elt) = escsB src ++ (escs conds ++ esc elt).filter fun i => !own.contains i := rfl
@[simp] theorem escB_dict (t : Bool) (ks vs : List TK.E) : escB (.dict t ks vs) = escs ks ++ escs vs := rfl
@[simp] theorem escB_get (a b : TK.E) (c : D) : escB (.get a b c) = escB a ++ escB b := rfl
@[simp] theorem escs_nil : escs [] = [] := rfl
@[simp] theorem escs_cons (e : TK.E) (es : List TK.E) : escs (e :: es) = esc e ++ escs es := rfl
@[simp] theorem escsB_nil : escsB [] = [] := rfl
@[simp] theorem escsB_cons (e : TK.E) (es : List TK.E) : escsB (e :: es) = escB e ++ escsB es := rfl
@[simp] theorem esco_none : esco none = [] := rfl
@[simp] theorem esco_some (e : TK.E) : esco (some e) = esc e := rfl
@[simp] theorem wipe_cons (v : Nat) (vs : List Nat) : wipeE env (v :: vs) = (wipeE env vs).set v .no := rfl
@[simp] theorem ex_exp (e : TK.E) : ex Γ (.exp e) env = (ev Γ env e >>= fun _ => pure (.nx, env)) := rfl
@[simp] theorem ex_raise (c : Str) : ex Γ (.raise c) env = throwX c := rfl
@[simp] theorem ex_try (e : TK.E) (hs : List (Str × D)) : ex Γ (.tryR e hs) env = (tryM (ev Γ env e) hs >>= fun d => pure (.rt d, env)) := rfl
@[simp] theorem try_pure (d : D) (hs : List (Str × D)) : tryM (pure d) hs = pure d := rfl
theorem try_throw (c : Str) (hs : List (Str × D)) : tryM (throwX c) hs = (match hs.lookup c with | some d => pure d | none => fail) := by
  funext st
  show (match hs.lookup c with | some d => some (Except.ok d, st) | none => none) = _
  cases hs.lookup c <;> rfl
@[simp] theorem ex_append (i : Nat) (e : TK.E) : ex Γ (.append i e) env = (liftO (ownL (frz env (esc e)) i) >>= fun l => ev Γ (frz env (esc e)) e >>= fun d => if l.length < lim then pure (.nx, (frz env (esc e)).set i (.own (.list (l ++ [d])))) else fail) := rfl
@[simp] theorem ex_extend (i : Nat) (e : TK.E) : ex Γ (.extend i e) env = (liftO (ownL env i) >>= fun l => ev Γ env e >>= fun d => liftO (seqOf d) >>= fun m => if l.length + m.length ≤ lim then pure (.nx, env.set i (.own (.list (l ++ m)))) else fail) := rfl
@[simp] theorem ex_store (i : Nat) (k e : TK.E) : ex Γ (.store i k e) env = (match (frz env (esc e))[i]? with | some (.own o) => (ev Γ (frz env (esc e)) e >>= fun d => ev Γ (frz env (esc e)) k >>= fun kd => liftO (storeD o kd d) >>= fun o1 => pure (.nx, (frz env (esc e)).set i (.own o1))) | _ => fail) := rfl
@[simp] theorem ex_unp (tg : Tg) (e : TK.E) : ex Γ (.unp tg e) env = (ev Γ (frz env (esc e)) e >>= fun d => liftO (asgT tg d (frz env (esc e))) >>= fun e2 => pure (.nx, e2)) := rfl
@[simp] theorem ex_par (is : List (Nat × Bool)) (es : List TK.E) : ex Γ (.par is es) env = (evsP Γ (frz env (escs es)) (is.map (·.2)) es >>= fun ds => setAll is ds (frz env (escs es)) >>= fun e2 => pure (.nx, e2)) := rfl
@[simp] theorem evsP_nil : evsP Γ env [] [] = pure [] := rfl
@[simp] theorem evsP_cons (f : Bool) (fs : List Bool) (e : TK.E) (es : List TK.E) : evsP Γ env (f :: fs) (e :: es) = (ev Γ env e >>= fun d => if ownB f d then (evsP Γ env fs es >>= fun ds => pure (d :: ds)) else fail) := rfl
@[simp] theorem setAll_nil : setAll [] [] env = pure env := rfl
@[simp] theorem setAll_cons (i : Nat) (o : Bool) (r : List (Nat × Bool)) (d : D) (ds : List D) : setAll ((i, o) :: r) (d :: ds) env = (setS env i (if o then .own d else .val d) >>= fun e1 => setAll r ds e1) := rfl
@[simp] theorem setS_eq (i : Nat) (s : Slot) : setS env i s = if i < env.length then pure (env.set i s) else fail := rfl
@[simp] theorem ownL0 (l : List D) (r : Env) : ownL (.own (.list l) :: r) 0 = some l := rfl
@[simp] theorem ownLs (s : Slot) (r : Env) (i : Nat) : ownL (s :: r) (i + 1) = ownL r i := rfl
@[simp] theorem chainM_b (o : O2) (y : D) (z : D) (b : Bool) : chainM o y (pure z) (.bool b) = if b = true then liftO (app2 o y z) else pure (.bool false) := by cases b <;> rfl
@[simp] theorem app1_isN (d : D) : app1 .isN d = some (.bool (!notNone d)) := rfl
@[simp] theorem app1_isNN (d : D) : app1 .isNN d = some (.bool (notNone d)) := rfl
@[simp] theorem app1_any (l : List D) : app1 .any (.list l) = (boolsOf l).map fun bs => .bool (bs.any id) := rfl
@[simp] theorem app1_setLen (d : D) : app1 .setLen d = (seqOf d).bind fun l => (strsOf l).bind fun ss => if ss.length < 4000 then some (.int (nub ss).length) else none := rfl
@[simp] theorem app1_int_b (b : Bool) : app1 .int (.bool b) = some (.int (if b then 1 else 0)) := rfl
@[simp] theorem app1_tupleOf_t (l : List D) : app1 .tupleOf (.tuple l) = some (.tuple l) := rfl
@[simp] theorem app1_rev_t (l : List D) : app1 .rev (.tuple l) = some (.tuple l.reverse) := rfl
@[simp] theorem app1_rev_l (l : List D) : app1 .rev (.list l) = some (.list l.reverse) := rfl
@[simp] theorem app2_add_l (a b : List D) : app2 .add (.list a) (.list b) = if a.length + b.length ≤ lim then some (.list (a ++ b)) else none := rfl
@[simp] theorem app2_add_t (a b : List D) : app2 .add (.tuple a) (.tuple b) = if a.length + b.length ≤ lim then some (.tuple (a ++ b)) else none := rfl
@[simp] theorem app2_add_s (a b : Str) : app2 .add (.str a) (.str b) = if a.length + b.length ≤ lim then some (.str (a ++ b)) else none := rfl
theorem app2_in_l (x : D) (l : List D) : app2 .isin x (.list l) = if dep 60 x && l.all (dep 60) then some (.bool (l.any fun y => PyData.eqv y x)) else none := rfl
theorem app2_in_t (x : D) (l : List D) : app2 .isin x (.tuple l) = if dep 60 x && l.all (dep 60) then some (.bool (l.any fun y => PyData.eqv y x)) else none := rfl
theorem app2_notin_l (x : D) (l : List D) : app2 .notin x (.list l) = if dep 60 x && l.all (dep 60) then some (.bool (!l.any fun y => PyData.eqv y x)) else none := rfl
theorem app2_notin_t (x : D) (l : List D) : app2 .notin x (.tuple l) = if dep 60 x && l.all (dep 60) then some (.bool (!l.any fun y => PyData.eqv y x)) else none := rfl
@[simp] theorem app2_lt_i (i j : Int) : app2 .lt (.int i) (.int j) = some (.bool (decide (i < j))) := by
  show (ltD (.int i) (.int j)).map _ = _
  simp [ltD, PySem.W.alike, notNone, dep, PySem.W.dataLt, PySem.W.keyToks, PyProof.Rows.lexLt, PyProof.Rows.itemLt]
@[simp] theorem app2_ge_i (i j : Int) : app2 .ge (.int i) (.int j) = some (.bool (decide (j ≤ i))) := rfl
@[simp] theorem eqD_int (a b : Int) : eqD (.int a) (.int b) = some (decide (a = b)) := by
  show some (PyData.eqv (.int a) (.int b)) = _
  rw [PyData.eqv]; rfl
@[simp] theorem eqD_str (a b : Str) : eqD (.str a) (.str b) = some (decide (a = b)) := by
  show some (PyData.eqv (.str a) (.str b)) = _
  rw [PyData.eqv]; rfl
@[simp] theorem eqD_bool (a b : Bool) : eqD (.bool a) (.bool b) = some (decide (a = b)) := by
  show some (PyData.eqv (.bool a) (.bool b)) = _
  rw [PyData.eqv]; cases a <;> cases b <;> rfl
/-- a def that returns a call's answer or the name of an exception -/
theorem or_run {f : FnSem} {hs : List (Str × D)} {n : Nat} {es : List TK.E} {ds : List D} (hl : ds.length = n) (he : evs [f] (ds.map .val) es = pure ds) : run [f] ⟨n, n, [.tryR (.call 0 es) hs]⟩ ds = tryM (f ds) hs := by
  rw [run_eq (by exact hl)]
  show (exs [f] [.tryR (.call 0 es) hs] (ds.map .val ++ List.replicate (n - n) .no) >>= retM) = _
  simp [he]
  exact bind_pure' _
theorem or_throw {f : FnSem} {hs : List (Str × D)} {n : Nat} {es : List TK.E} {ds : List D} {c : Str} {d : D} (h : f ds = throwX c) (hl : ds.length = n) (he : evs [f] (ds.map .val) es = pure ds) (hc : hs.lookup c = some d) : run [f] ⟨n, n, [.tryR (.call 0 es) hs]⟩ ds = pure d := by
  rw [or_run hl he, h, try_throw, hc]
theorem or_ok {f : FnSem} {hs : List (Str × D)} {n : Nat} {es : List TK.E} {ds : List D} {d : D} (h : f ds = pure d) (hl : ds.length = n) (he : evs [f] (ds.map .val) es = pure ds) : run [f] ⟨n, n, [.tryR (.call 0 es) hs]⟩ ds = pure d := by
  rw [or_run hl he, h, try_pure]
theorem limv : lim = 16777216 := PySem.sizeLine_eq
@[simp] theorem typ_int_int (i : Int) : typ .int (.int i) = some true := rfl
@[simp] theorem typ_bool_int (i : Int) : typ .bool (.int i) = some false := rfl
@[simp] theorem typ_int_bool (i : Bool) : typ .int (.bool i) = some true := rfl
@[simp] theorem typ_bool_bool (i : Bool) : typ .bool (.bool i) = some true := rfl
end
end TK
namespace TK
open PySem L2
section
variable {α β τ : Type} {x : M α} {f : α → M β} {c d e : Nat} {P : α → Prop} {Q : β → Prop}
/-- x ends well whatever the draws' list is, of which it grows by at most c, and Q holds of what it gives -/
def Wp (x : M α) (c : Nat) (Q : α → Prop) : Prop := ∀ st : DSt, st.length + c ≤ 10000000 → ∃ a st', x st = some (.ok a, st') ∧ Q a ∧ st'.length ≤ st.length + c
theorem Wp.pure {a : α} (h : P a) : Wp (pure a : M α) e P := fun st _ => ⟨a, st, rfl, h, by omega⟩
theorem Wp.mono {Q : α → Prop} (h : Wp x c P) (hc : c ≤ e) (hq : ∀ a, P a → Q a) : Wp x e Q := fun st hst => by
  obtain ⟨a, st', h1, h2, h3⟩ := h st (by omega)
  exact ⟨a, st', h1, hq a h2, by omega⟩
theorem Wp.bindB (h : Wp x c P) (hc : c ≤ e) (k : ∀ a, P a → Wp (f a) (e - c) Q) : Wp (x >>= f) e Q := fun st hst => by
  obtain ⟨a, st', h1, h2, h3⟩ := h st (by omega)
  obtain ⟨b, st2, k1, k2, k3⟩ := k a h2 st' (by omega)
  exact ⟨b, st2, by rw [bind_eq h1]; exact k1, k2, by omega⟩
theorem Wp.forB {α : Type} {tg : Tg} {b : Env → M (Fl × Env)} {h : α → D} {k : Fl × Env → M β} (l : List α) (I : List α → Env → Prop) (c : Nat) {env : Env} (hi : I [] env) (hc : l.length * c ≤ e)
    (hs : ∀ done a rest, l = done ++ a :: rest → ∀ env, I done env → ∃ env1, asgT tg (h a) env = some env1 ∧ Wp (b env1) c (fun r => r.1 = .nx ∧ I (done ++ [a]) r.2))
    (hk : ∀ env, I l env → Wp (k (.nx, env)) (e - l.length * c) Q) : Wp (TK.forL tg b (l.map h) env >>= k) e Q := by
  have key : ∀ (r done : List α) (env : Env), l = done ++ r → I done env → Wp (TK.forL tg b (r.map h) env) (r.length * c) (fun q => q.1 = .nx ∧ I l q.2) := by
    intro r
    induction r with
    | nil => exact fun done env e1 hi => .pure ⟨rfl, by rw [e1, List.append_nil]; exact hi⟩
    | cons a r ih =>
      intro done env e1 hi
      obtain ⟨env1, h1, h2⟩ := hs done a r e1 env hi
      rw [List.map_cons, forL_cons, h1, liftO_some, pure_bind']
      refine Wp.bindB h2 (by rw [List.length_cons, Nat.succ_mul]; omega) fun q hq => ?_
      obtain ⟨fl, e2⟩ := q
      obtain ⟨rfl, hq⟩ := hq
      exact Wp.mono (ih (done ++ [a]) e2 (by rw [e1]; simp) hq) (by rw [List.length_cons, Nat.succ_mul]; omega) fun _ z => z
  refine Wp.bindB (key l [] env rfl hi) hc fun q hq => ?_
  obtain ⟨fl, e2⟩ := q
  obtain ⟨rfl, hq⟩ := hq
  exact hk e2 hq
/-- the same where nothing but the shape of the slots is kept -/
theorem Wp.forI {α : Type} {tg : Tg} {b : Env → M (Fl × Env)} {h : α → D} {k : Fl × Env → M β} (l : List α) (I : Env → Prop) (c : Nat) {env : Env} (hi : I env) (hc : l.length * c ≤ e)
    (hs : ∀ a ∈ l, ∀ env, I env → ∃ env1, asgT tg (h a) env = some env1 ∧ Wp (b env1) c (fun r => r.1 = .nx ∧ I r.2))
    (hk : ∀ env, I env → Wp (k (.nx, env)) (e - l.length * c) Q) : Wp (TK.forL tg b (l.map h) env >>= k) e Q :=
  Wp.forB l (fun _ env => I env) c hi hc (fun done a rest el env hi => hs a (by rw [el]; simp) env hi) hk
/-- a loop that draws and may return -/
theorem Wp.forR {α : Type} {tg : Tg} {b : Env → M (Fl × Env)} {h : α → D} {k : Fl × Env → M β} (l : List α) (I : Env → Prop) (V : D → Prop) (c : Nat) {env : Env} (hi : I env) (hc : l.length * c ≤ e)
    (hs : ∀ a ∈ l, ∀ env, I env → ∃ env1, asgT tg (h a) env = some env1 ∧ Wp (b env1) c (fun r => (r.1 = .nx ∧ I r.2) ∨ ∃ v, r.1 = .rt v ∧ V v))
    (hk : ∀ env, I env → Wp (k (.nx, env)) (e - l.length * c) Q) (hr : ∀ v env, V v → Wp (k (.rt v, env)) (e - l.length * c) Q) : Wp (TK.forL tg b (l.map h) env >>= k) e Q := by
  have key : ∀ (r : List α), (∀ a ∈ r, a ∈ l) → ∀ env, I env → Wp (TK.forL tg b (r.map h) env) (r.length * c) (fun q => (q.1 = .nx ∧ I q.2) ∨ ∃ v, q.1 = .rt v ∧ V v) := by
    intro r
    induction r with
    | nil => exact fun _ env hi => .pure (.inl ⟨rfl, hi⟩)
    | cons a r ih =>
      intro hm env hi
      obtain ⟨env1, h1, h2⟩ := hs a (hm a List.mem_cons_self) env hi
      rw [List.map_cons, forL_cons, h1, liftO_some, pure_bind']
      refine Wp.bindB h2 (by rw [List.length_cons, Nat.succ_mul]; omega) fun q hq => ?_
      obtain ⟨fl, e2⟩ := q
      rcases hq with ⟨rfl, hq⟩ | ⟨v, rfl, hv⟩
      · exact Wp.mono (ih (fun x hx => hm x (List.mem_cons_of_mem _ hx)) e2 hq) (by rw [List.length_cons, Nat.succ_mul]; omega) fun _ z => z
      · exact .pure (.inr ⟨v, rfl, hv⟩)
  refine Wp.bindB (key l (fun _ h => h) env hi) hc fun q hq => ?_
  obtain ⟨fl, e2⟩ := q
  rcases hq with ⟨rfl, hq⟩ | ⟨v, rfl, hv⟩
  · exact hk e2 hq
  · exact hr v e2 hv
end
namespace P
variable {ns : List Int} {e : Nat}
theorem draw_wp (hns : ns.length ≤ 63) {many : Int} (hm : 0 < many) : Wp (f__law_draw [scr ns, tok, .int many]) 2 (fun d => ∃ v, d = .int v ∧ 0 ≤ v ∧ v < many) := draw_runs ns (by omega) hm
theorem pick_wp (hns : ns.length ≤ 63) {l : List D} (hl : l ≠ []) : Wp (f__law_pick [scr ns, tok, .list l]) 2 (fun d => d ∈ l) := pick_runs ns (by omega) hl
theorem shuf_wp (hns : ns.length ≤ 63) {l : List D} (hl : l.length ≤ 1000) : Wp (f__law_shuffled [scr ns, tok, .list l]) (2 * l.length) (fun d => ∃ r, d = .list r ∧ r.Perm l) := shuf_runs ns (by omega) hl
end P
end TK
namespace TK.P
open PySem TK
def isLow (c : Nat) : Bool := decide (97 ≤ c ∧ c ≤ 122)
def isWordS (s : Str) : Bool := decide (1 ≤ s.length ∧ s.length ≤ 4) && s.cps.toList.all isLow
theorem a_le (c : Nat) : strLe "a" ⟨#[c]⟩ = decide (97 ≤ c) := by
  have : (("a" : Str).cps.toList) = [97] := by decide +kernel
  unfold strLe
  rw [this]
  show (!decide ([c] < [97])) = _
  simp [List.cons_lt_cons_iff]
  by_cases h : c < 97
  · simp [h]
  · simp [h]; omega
theorem le_z (c : Nat) : strLe ⟨#[c]⟩ "z" = decide (c ≤ 122) := by
  have : (("z" : Str).cps.toList) = [122] := by decide +kernel
  unfold strLe
  rw [this]
  show (!decide ([122] < [c])) = _
  simp [List.cons_lt_cons_iff]
  by_cases h : 122 < c
  · simp [h]
  · simp [h]; omega
theorem is_word_str (s : Str) (st : DSt) (hs : s.length ≤ lim) : f_is_word [.str s] st = some (.ok (.bool (isWordS s)), st) := by
  unfold f_is_word
  rw [run_ap rfl]
  by_cases h1 : 1 ≤ s.length ∧ s.length ≤ 4
  · have e1 : decide ((1 : Int) ≤ (s.length : Int)) = true := decide_eq_true (by omega)
    have e2 : decide ((s.length : Int) ≤ 4) = true := decide_eq_true (by omega)
    have k2 : noX (compL (compF [] [Slot.val (PyData.str s), Slot.no] [1] (.n 1) [] (.chain .le .le (.con (.str "a")) (.var 1) (.con (.str "z")))) (chars s)) st = some (.ok (s.cps.toList.map fun c => .bool (isLow c)), st) := by
      refine noX_ok (compL_mapc fun c _ => ?_)
      by_cases hc : 97 ≤ c
      · simp [compF, wipeE, a_le, le_z, hc, isLow]
      · simp [compF, wipeE, a_le, le_z, hc, isLow]
    simp [b_is_word, hs, e1, e2, esc, escB, escsB, escs, k2, boolsOf_map, isWordS, h1]
  · have hw : isWordS s = false := by unfold isWordS; rw [decide_eq_false h1]; rfl
    rw [hw]
    by_cases h2 : 1 ≤ s.length
    · have e1 : decide ((1 : Int) ≤ (s.length : Int)) = true := decide_eq_true (by omega)
      have e2 : decide ((s.length : Int) ≤ 4) = false := decide_eq_false (by omega)
      simp [b_is_word, hs, e1, e2, esc]
    · have e1 : decide ((1 : Int) ≤ (s.length : Int)) = false := decide_eq_false (by omega)
      simp [b_is_word, hs, e1, esc]
/-- data as they are drawn: no dict, short texts -/
def nice : Nat → D → Bool
  | _, .none => true
  | _, .bool _ => true
  | _, .int _ => true
  | _, .str s => decide (s.length ≤ 1000)
  | 0, .list _ => false
  | 0, .tuple _ => false
  | n + 1, .list l => decide (l.length ≤ 1000) && l.all (nice n)
  | n + 1, .tuple l => decide (l.length ≤ 1000) && l.all (nice n)
  | _, .dict _ => false
theorem lim_ge : 1000 ≤ lim := by decide
def isWord : D → Bool
  | .str s => isWordS s
  | _ => false
theorem is_word_eq {n : Nat} {d : D} (h : nice n d = true) (st : DSt) : f_is_word [d] st = some (.ok (.bool (isWord d)), st) := by
  cases d with
  | str s =>
    have : s.length ≤ 1000 := by cases n <;> simpa [nice] using h
    exact is_word_str s st (Nat.le_trans this lim_ge)
  | dict l => cases n <;> cases h
  | _ =>
    unfold f_is_word
    rw [run_ap rfl]
    simp [b_is_word, typ, esc, isWord]
theorem asc_tup (ss : List Str) (st : DSt) : f_is_ascending [.tuple (ss.map .str)] st = some (.ok (.bool (ascS ss)), st) := by
  unfold f_is_ascending
  rw [run_ap rfl]
  have k2 : noX (compL (compF [] [Slot.val (PyData.tuple (ss.map .str)), Slot.no, Slot.no] [1, 2] (.t [.n 1, .n 2]) [] (.op2 .lt (.var 1) (.var 2))) ((ss.zip (ss.drop 1)).map fun p => .tuple [.str p.1, .str p.2])) st = some (.ok ((ss.zip (ss.drop 1)).map fun p => .bool (ltS p.1 p.2)), st) := by
    refine noX_ok (compL_mapc fun p _ => ?_)
    simp [compF, wipeE, ltD_str]
  have k3 := zip_strs ss (ss.drop 1)
  rw [List.map_drop] at k3
  simp [-List.drop_one, b_is_ascending, esc, escB, escsB, escs, esco, cut1, k3, k2, boolsOf_map, asc_zip']
theorem asc_lst (ss : List Str) (st : DSt) : f_is_ascending [.list (ss.map .str)] st = some (.ok (.bool (ascS ss)), st) := by
  unfold f_is_ascending
  rw [run_ap rfl]
  have k2 : noX (compL (compF [] [Slot.val (PyData.list (ss.map .str)), Slot.no, Slot.no] [1, 2] (.t [.n 1, .n 2]) [] (.op2 .lt (.var 1) (.var 2))) ((ss.zip (ss.drop 1)).map fun p => .tuple [.str p.1, .str p.2])) st = some (.ok ((ss.zip (ss.drop 1)).map fun p => .bool (ltS p.1 p.2)), st) := by
    refine noX_ok (compL_mapc fun p _ => ?_)
    simp [compF, wipeE, ltD_str]
  have k3 := zip_strs ss (ss.drop 1)
  rw [List.map_drop] at k3
  simp [-List.drop_one, b_is_ascending, esc, escB, escsB, escs, esco, cut1, k3, k2, boolsOf_map, asc_zip']
theorem words_of : ∀ {l : List D}, l.all isWord = true → ∃ ss : List Str, l = ss.map .str
  | [], _ => ⟨[], rfl⟩
  | d :: l, h => by
    rw [List.all_cons, Bool.and_eq_true] at h
    obtain ⟨ss, rfl⟩ := words_of h.2
    cases d with
    | str s => exact ⟨s :: ss, rfl⟩
    | _ => cases h.1
def txts : List D → List Str
  | .str s :: r => s :: txts r
  | _ :: r => txts r
  | [] => []
theorem txts_map : ∀ l : List Str, txts (l.map .str) = l
  | [] => rfl
  | a :: l => by rw [List.map_cons, txts, txts_map l]
def areKeys : D → Bool
  | .tuple l => decide (l.length ≤ 6) && l.all isWord && ascS (txts l)
  | _ => false
theorem nice_tup {n : Nat} {l : List D} (h : nice n (.tuple l) = true) : ∃ m, n = m + 1 ∧ l.length ≤ 1000 ∧ ∀ d ∈ l, nice m d = true := by
  cases n with
  | zero => cases h
  | succ m =>
    simp only [nice, Bool.and_eq_true, decide_eq_true_eq, List.all_eq_true] at h
    exact ⟨m, rfl, h.1, h.2⟩
theorem are_keys_eq {n : Nat} {d : D} (h : nice n d = true) (st : DSt) : f_are_keys [d] st = some (.ok (.bool (areKeys d)), st) := by
  cases d with
  | tuple l =>
    obtain ⟨m, rfl, _, hl⟩ := nice_tup h
    unfold f_are_keys
    rw [run_ap rfl]
    have k2 : noX (compL (compF [f_is_word, f_is_ascending] [Slot.val (PyData.tuple l), Slot.no] [1] (.n 1) [] (.call 0 [.var 1])) l) st = some (.ok (l.map fun d => .bool (isWord d)), st) := by
      refine noX_ok (compL_map fun d hd => ?_)
      simp [compF, wipeE, is_word_eq (hl d hd) st]
    by_cases h6 : l.length ≤ 6
    · have e1 : decide ((6 : Int) < (l.length : Int)) = false := decide_eq_false (by omega)
      cases hw : l.all isWord with
      | false =>
        have hw' : (l.map isWord).all id = false := by rw [List.all_map]; exact hw
        simp [b_are_keys, esc, escs, e1, k2, boolsOf_map, hw, areKeys]
      | true =>
        obtain ⟨ss, hss⟩ := words_of hw
        have ha : f_is_ascending [.tuple l] st = some (.ok (.bool (ascS (txts l))), st) := by rw [hss, asc_tup, txts_map]
        simp [b_are_keys, esc, escs, e1, k2, boolsOf_map, hw, areKeys, ha, h6]
    · have e1 : decide ((6 : Int) < (l.length : Int)) = true := decide_eq_true (by omega)
      simp [b_are_keys, esc, e1, areKeys, h6]
  | dict l => cases n <;> cases h
  | _ =>
    unfold f_are_keys
    rw [run_ap rfl]
    simp [b_are_keys, typ, esc, areKeys]
def isLock : D → Bool
  | .tuple [a, b, c] => isWord a && areKeys b && areKeys c
  | _ => false
theorem is_lock_eq {n : Nat} {d : D} (h : nice n d = true) (st : DSt) : f_is_lock [d] st = some (.ok (.bool (isLock d)), st) := by
  cases d with
  | tuple l =>
    obtain ⟨m, rfl, _, hl⟩ := nice_tup h
    unfold f_is_lock
    rw [run_ap rfl]
    match l, hl with
    | [a, b, c], hl =>
      have ha := hl a (by simp)
      have hb := hl b (by simp)
      have hc := hl c (by simp)
      have e3 : eqD (.int 3) (.int 3) = some true := by decide
      cases hw : isWord a with
      | false => simp [b_is_lock, esc, escs, escB, isLock, e3, L2.atI, L2.ixN, is_word_eq ha, hw]
      | true =>
        cases hk : areKeys b with
        | false => simp [b_is_lock, esc, escs, escB, isLock, e3, L2.atI, L2.ixN, is_word_eq ha, are_keys_eq hb, hw, hk]
        | true => simp [b_is_lock, esc, escs, escB, isLock, e3, L2.atI, L2.ixN, is_word_eq ha, are_keys_eq hb, are_keys_eq hc, hw, hk]
    | [], _ => 
      have e3 : eqD (.int 0) (.int 3) = some false := by decide
      simp [b_is_lock, esc, isLock, e3]
    | [a], _ => 
      have e3 : eqD (.int 1) (.int 3) = some false := by decide
      simp [b_is_lock, esc, isLock, e3]
    | [a, b], _ => 
      have e3 : eqD (.int 2) (.int 3) = some false := by decide
      simp [b_is_lock, esc, isLock, e3]
    | a :: b :: c :: d :: r, _ => 
      have e3 : eqD (.int ((r.length : Int) + 1 + 1 + 1 + 1)) (.int 3) = some false := by
        have : ((r.length : Int) + 1 + 1 + 1 + 1 == 3) = false := by simp; omega
        simp [eqD, dep, PyData.eqv, this]
      simp [b_is_lock, esc, isLock, e3]
  | dict l => cases n <;> cases h
  | _ =>
    unfold f_is_lock
    rw [run_ap rfl]
    simp [b_is_lock, typ, esc, isLock]
end TK.P
namespace TK.P
open PySem TK
def nameOf : D → Str
  | .tuple (.str s :: _) => s
  | _ => ⟨#[]⟩
def isPlant : D → Bool
  | .tuple l => decide (1 ≤ l.length ∧ l.length ≤ 8) && l.all isLock && ascS (l.map nameOf)
  | _ => false
theorem lock_form {d : D} (h : isLock d = true) : ∃ b c, d = .tuple [.str (nameOf d), b, c] := by
  unfold isLock at h
  split at h
  · rename_i a b c
    simp only [Bool.and_eq_true] at h
    cases a with
    | str s => exact ⟨b, c, rfl⟩
    | _ => cases h.1.1
  · cases h
theorem is_plant_eq {n : Nat} {d : D} (h : nice n d = true) (st : DSt) : f_is_plant [d] st = some (.ok (.bool (isPlant d)), st) := by
  cases d with
  | tuple l =>
    obtain ⟨m, rfl, _, hl⟩ := nice_tup h
    unfold f_is_plant
    rw [run_ap rfl]
    have k2 : noX (compL (compF [f_is_lock, f_is_ascending] [Slot.val (PyData.tuple l), Slot.no] [1] (.n 1) [] (.call 0 [.var 1])) l) st = some (.ok (l.map fun d => .bool (isLock d)), st) := by
      refine noX_ok (compL_map fun d hd => ?_)
      simp [compF, wipeE, is_lock_eq (hl d hd) st]
    by_cases h1 : 1 ≤ l.length ∧ l.length ≤ 8
    · have e1 : (1 : Int) ≤ (l.length : Int) := by omega
      have e2 : (l.length : Int) ≤ 8 := by omega
      cases hw : l.all isLock with
      | false => simp [b_is_plant, esc, escs, escB, escsB, e1, e2, k2, boolsOf_map, hw, isPlant]
      | true =>
        have k3 : noX (compL (compF [f_is_lock, f_is_ascending] [Slot.val (PyData.tuple l), Slot.no] [1] (.n 1) [] (.op2 .ix (.var 1) (.con (.int 0)))) l) st = some (.ok ((l.map nameOf).map .str), st) := by
          rw [List.map_map]
          refine noX_ok (compL_map fun d hd => ?_)
          obtain ⟨b, c, e⟩ := lock_form (List.all_eq_true.mp hw d hd)
          generalize hz : nameOf d = z at e
          subst e
          simp [compF, wipeE, L2.atI, L2.ixN, nameOf]
        simp [-List.map_map, b_is_plant, esc, escs, escB, escsB, e1, e2, k2, k3, boolsOf_map, hw, isPlant, asc_lst, h1]
    · have hp : isPlant (.tuple l) = false := by
        show (decide (1 ≤ l.length ∧ l.length ≤ 8) && l.all isLock && ascS (l.map nameOf)) = false
        rw [decide_eq_false h1]; rfl
      rw [hp]
      by_cases h2 : 1 ≤ l.length
      · have e1 : (1 : Int) ≤ (l.length : Int) := by omega
        have e2 : ¬ (l.length : Int) ≤ 8 := by omega
        simp [b_is_plant, e1, e2, esc]
      · have e1 : ¬ (1 : Int) ≤ (l.length : Int) := by omega
        simp [b_is_plant, e1, esc]
  | dict l => cases n <;> cases h
  | _ =>
    unfold f_is_plant
    rw [run_ap rfl]
    simp [b_is_plant, typ, esc, isPlant]
end TK.P
namespace TK.P
open PySem TK L2
abbrev Lock := Str × List Str × List Str
def lockD (l : Lock) : D := .tuple [.str l.1, .tuple (l.2.1.map .str), .tuple (l.2.2.map .str)]
def plantD (p : List Lock) : D := .tuple (p.map lockD)
def bit (b : Bool) : Int := if b then 1 else 0
def bD (b : Bool) : D := .int (bit b)
def rowD (r : List Bool) : D := .tuple (r.map bD)
theorem cut_hi {α : Type} (l : List α) (k : Nat) : cut l none (some (k : Int)) = l.take k := by
  unfold cut
  rw [HT.sIx_none, HT.sIx_nat, Nat.sub_zero, List.drop_zero]
  by_cases h : k ≤ l.length
  · rw [Nat.min_eq_left h]
  · rw [Nat.min_eq_right (by omega), List.take_of_length_le (Nat.le_refl _), List.take_of_length_le (by omega)]
theorem cut_lo {α : Type} (l : List α) (k : Nat) : cut l (some (k : Int)) none = l.drop k := by
  unfold cut
  rw [HT.sIx_none, HT.sIx_nat]
  by_cases h : k ≤ l.length
  · rw [Nat.min_eq_left h, List.take_of_length_le (by rw [List.length_drop]; omega)]
  · rw [Nat.min_eq_right (by omega), List.drop_of_length_le (by omega), List.drop_of_length_le (by omega)]; simp
theorem cut_hiI {α : Type} (l : List α) {v : Int} (h : 0 ≤ v) : cut l none (some v) = l.take v.toNat := by
  have := cut_hi l v.toNat
  rwa [Int.toNat_of_nonneg h] at this
theorem cut_last {α : Type} (l : List α) : cut l none (some (-1)) = l.take (l.length - 1) := by
  unfold cut
  rw [HT.sIx_none, List.drop_zero, Nat.sub_zero]
  have : HT.sIx l.length l.length (some (-1)) = l.length - 1 := by
    show (if (-1 : Int) < 0 then ((-1 : Int) + (l.length : Int)).toNat else min (-1 : Int).toNat l.length) = _
    rw [if_pos (by decide)]
    omega
  rw [this]
theorem atI_nat {α : Type} (l : List α) {v : Int} (h0 : 0 ≤ v) (h1 : v < l.length) : atI l v = some (l[v.toNat]'(by omega)) := by
  unfold atI ixN
  rw [if_pos h0, if_pos h1]
  show l[v.toNat]? = _
  rw [List.getElem?_eq_getElem]
theorem sorted_strs (ss : List Str) : sortD (ss.map .str) = some ((sortS ss).map .str) := by
  have h1 : ∀ x ∈ ss.map PyData.str, ∃ s, x = .str s := fun x hx => by
    obtain ⟨s, _, rfl⟩ := List.mem_map.mp hx
    exact ⟨s, rfl⟩
  have ok : sortOk (ss.map .str) = true := by
    unfold sortOk
    simp only [Bool.and_eq_true, List.all_eq_true, Bool.or_eq_true]
    refine ⟨⟨fun x hx y hy => ?_, .inr fun x hx => ?_⟩, fun x hx => ?_⟩
    · obtain ⟨s, rfl⟩ := h1 x hx
      obtain ⟨t, rfl⟩ := h1 y hy
      simp only [PySem.W.alike]
    · obtain ⟨s, rfl⟩ := h1 x hx; rfl
    · obtain ⟨s, rfl⟩ := h1 x hx; rfl
  unfold sortD
  rw [if_pos ok]
  unfold sortS
  rw [List.map_mergeSort (s := PySem.W.dataLe false id)]
  intro a _ b _
  show _ = !PySem.W.dataLt (.str b) (.str a)
  rw [PySem.W.dataLt_str]
  unfold strLE
  by_cases h : b.cps.toList < a.cps.toList
  · rw [decide_eq_true h, decide_eq_false (fun h2 => absurd h (Std.not_lt.mpr h2))]; rfl
  · rw [decide_eq_false h, decide_eq_true (Std.not_lt.mp h)]; rfl
theorem asc_sortS {l : List Str} (h : l.Nodup) : ascS (sortS l) = true := by
  have nd : (sortS l).Nodup := (sortS_perm l).nodup_iff.mpr h
  exact pair_asc (((sortS_sorted l).and nd).imp fun ⟨h1, h2⟩ => ltS_of h1 h2)
theorem asc_nodup {l : List Str} (h : ascS l = true) : l.Nodup := (asc_pair h).imp fun {a b} h e => by rw [e, ltS_irrefl] at h; cases h
def drawnNames : List Str := ["a", "b", "c", "d", "door", "e", "main", "zz"]
def drawnKeys : List Str := ["k", "l", "m", "n", "o", "p"]
structure Drawn (m : Nat) (p : List Lock) : Prop where
  pos : 1 ≤ p.length
  len : p.length ≤ m
  asc : ascS (p.map (·.1)) = true
  nms : ∀ l ∈ p, l.1 ∈ drawnNames
  fst : ∀ l ∈ p, ascS l.2.1 = true ∧ l.2.1.length ≤ 2 ∧ ∀ k ∈ l.2.1, k ∈ drawnKeys
  snd : ∀ l ∈ p, ascS l.2.2 = true ∧ l.2.2.length ≤ 2 ∧ ∀ k ∈ l.2.2, k ∈ drawnKeys
def txt1 : D → Str
  | .str s => s
  | _ => ⟨#[]⟩
theorem perm_map_str {r : List D} {ss : List Str} (h : r.Perm (ss.map .str)) : ∃ rs : List Str, r = rs.map .str ∧ rs.Perm ss := by
  have : ∀ x ∈ r, ∃ s, x = PyData.str s := fun x hx => by
    obtain ⟨s, _, rfl⟩ := List.mem_map.mp (h.mem_iff.mp hx)
    exact ⟨s, rfl⟩
  have key : ∀ l : List D, (∀ x ∈ l, ∃ s, x = PyData.str s) → ∃ rs : List Str, l = rs.map .str := by
    intro l
    induction l with
    | nil => exact fun _ => ⟨[], rfl⟩
    | cons a l ih =>
      intro hl
      obtain ⟨s, rfl⟩ := hl a List.mem_cons_self
      obtain ⟨rs, rfl⟩ := ih fun x hx => hl x (List.mem_cons_of_mem _ hx)
      exact ⟨s :: rs, rfl⟩
  obtain ⟨rs, rfl⟩ := key r this
  refine ⟨rs, rfl, ?_⟩
  have := h.map txt1
  simpa [List.map_map, Function.comp_def, txt1] using this
variable {ns : List Int}
def smallI (l : List D) : Bool := l.all fun (x : PyData) => match x with | .int i => decide (0 ≤ i ∧ i ≤ 2) | _ => false
theorem smallI_of {l : List D} (h : smallI l = true) : ∀ x ∈ l, ∃ v : Nat, x = .int (v : Int) ∧ v ≤ 2 := fun x hx => by
  have := List.all_eq_true.mp h x hx
  cases x with
  | int i =>
    have h2 := of_decide_eq_true this
    exact ⟨i.toNat, by rw [Int.toNat_of_nonneg h2.1], by omega⟩
  | _ => cases this
theorem mem_three {d : D} (h : d ∈ ([.list [.int 0, .int 1], .list [.int 0, .int 1, .int 1, .int 2], .list [.int 1, .int 2]] : List D)) : ∃ l, d = .list l ∧ l ≠ [] ∧ ∀ x ∈ l, ∃ v : Nat, x = .int (v : Int) ∧ v ≤ 2 := by
  simp only [List.mem_cons, List.not_mem_nil, or_false] at h
  rcases h with rfl | rfl | rfl
  · exact ⟨_, rfl, by simp, smallI_of rfl⟩
  · exact ⟨_, rfl, by simp, smallI_of rfl⟩
  · exact ⟨_, rfl, by simp, smallI_of rfl⟩
theorem nodup_names : drawnNames.Nodup := by decide +kernel
theorem nodup_keys : drawnKeys.Nodup := by decide +kernel
/-- keys as they are drawn -/
def KeysOk (l : List Str) : Prop := ascS l = true ∧ l.length ≤ 2 ∧ ∀ k ∈ l, k ∈ drawnKeys
theorem keys_of {r : List Str} {n v : Nat} (hv : v ≤ 2) (h : r.Perm (drawnKeys.take n)) : KeysOk (sortS (r.take v)) := by
  have nd : r.Nodup := h.nodup_iff.mpr (nodup_keys.sublist (List.take_sublist _ _))
  refine ⟨asc_sortS (nd.sublist (List.take_sublist _ _)), ?_, fun k hk => ?_⟩
  · rw [(sortS_perm _).length_eq, List.length_take]; omega
  · have := (sortS_perm _).mem_iff.mp hk
    have := h.mem_iff.mp (List.mem_of_mem_take this)
    exact List.mem_of_mem_take this
theorem plant_wp (hns : ns.length ≤ 63) {m : Nat} (hm : 1 ≤ m) : Wp (f__law_plant [scr ns, tok, .int m]) 400 (fun d => ∃ p, d = plantD p ∧ Drawn m p) := by
  unfold f__law_plant
  rw [run_eq rfl]
  simp [b__law_plant, esc, escs, escB, esco, limv]
  refine Wp.bindB (shuf_wp hns (by simp)) (by decide) fun d hd => ?_
  obtain ⟨r, rfl, hr⟩ := hd
  obtain ⟨rs, rfl, hrs⟩ := perm_map_str (ss := drawnNames) hr
  refine Wp.bindB (draw_wp hns (by decide)) (by decide) fun d hd => ?_
  obtain ⟨v, rfl, v0, v1⟩ := hd
  simp
  refine Wp.bindB (pick_wp hns (by simp)) (by decide) fun d hd => ?_
  obtain ⟨few, rfl, fe, hfew⟩ := mem_three hd
  refine Wp.bindB (draw_wp hns (by omega)) (by decide) fun d hd => ?_
  obtain ⟨n, rfl, n0, n1⟩ := hd
  simp
  rw [cut_hiI _ (by omega), cut_hiI _ (by omega), ← List.map_take, sorted_strs]
  simp
  have hpool : (List.take (1 + v).toNat ([.str "k", .str "l", .str "m", .str "n", .str "o", .str "p"] : List D)) = (drawnKeys.take (1 + v).toNat).map .str := by rw [List.map_take]; rfl
  rw [hpool]
  have hlen : (sortS (List.take (1 + n).toNat rs)).length = min (1 + n).toNat 8 := by
    rw [(sortS_perm _).length_eq, List.length_take, hrs.length_eq]; rfl
  have hpl : (drawnKeys.take (1 + v).toNat).length ≤ 6 := by rw [List.length_take]; exact Nat.min_le_right _ _
  have hkp : ∀ {r : List Str} {v' : Nat}, v' ≤ 2 → r.Perm (drawnKeys.take (1 + v).toNat) → KeysOk (sortS (r.take v')) := fun a b => keys_of a b
  generalize drawnKeys.take (1 + v).toNat = pool at *
  refine Wp.forB _ (fun done env => ∃ p s5 s8 s9, env = [.val (scr ns), .val tok, .val (.int m), .val (.list (rs.map .str)), .val (.list (pool.map .str)), s5, .val (.list few), .own (.list (p.map lockD)), s8, s9] ∧ p.map (·.1) = done ∧ p.length ≤ 8 ∧ ∀ l ∈ p, KeysOk l.2.1 ∧ KeysOk l.2.2) 40 ⟨[], _, _, _, rfl, rfl, by simp, by simp⟩ (by rw [hlen]; omega) ?_ ?_
  · rintro done a rest hsp env ⟨p, s5, s8, s9, rfl, hp, hp8, hk⟩
    have hdl : p.length + 1 ≤ 8 := by
      have := congrArg List.length hsp
      rw [hlen, List.length_append, List.length_cons] at this
      rw [← hp, List.length_map] at this
      omega
    refine ⟨_, rfl, ?_⟩
    conv => arg 1; simp [esc, escs, escB, esco, limv]
    refine Wp.bindB (shuf_wp hns (by simp; omega)) (by simp; omega) fun d hd => ?_
    obtain ⟨r, rfl, hr1'⟩ := hd
    obtain ⟨r1, rfl, hr1⟩ := perm_map_str hr1'
    refine Wp.bindB (pick_wp hns fe) (by simp; omega) fun d hd => ?_
    obtain ⟨v1', rfl, hv1⟩ := hfew d hd
    conv => arg 1; simp
    refine Wp.bindB (shuf_wp hns (by simp; omega)) (by simp; omega) fun d hd => ?_
    obtain ⟨r, rfl, hr2'⟩ := hd
    obtain ⟨r2, rfl, hr2⟩ := perm_map_str hr2'
    refine Wp.bindB (pick_wp hns fe) (by simp; omega) fun d hd => ?_
    obtain ⟨v2', rfl, hv2⟩ := hfew d hd
    conv => arg 1; simp
    rw [cut_hi, cut_hi, ← List.map_take, ← List.map_take, sorted_strs, sorted_strs]
    have hlt : p.length < 16777216 := by omega
    conv => arg 1; simp [hlt]
    refine .pure ⟨rfl, p ++ [(a, sortS (r1.take v1'), sortS (r2.take v2'))], _, _, _, by simp [lockD]; exact ⟨rfl, rfl, rfl⟩, by simp [hp], by simp; omega, ?_⟩
    intro l hl
    rcases List.mem_append.mp hl with hl | hl
    · exact hk l hl
    · rw [List.mem_singleton.mp hl]
      exact ⟨hkp hv1 hr1, hkp hv2 hr2⟩
  · rintro env ⟨p, s5, s8, s9, rfl, hp, hp8, hk⟩
    simp [esc, escs, escB]
    have hpl2 : p.length = min (1 + n).toNat 8 := by
      rw [← hlen, ← hp, List.length_map]
    refine .pure ⟨p, rfl, ⟨by omega, by omega, ?_, ?_, fun l hl => (hk l hl).1, fun l hl => (hk l hl).2⟩⟩
    · rw [hp]
      refine asc_sortS ((hrs.nodup_iff.mpr nodup_names).sublist (List.take_sublist _ _))
    · intro l hl
      have : l.1 ∈ p.map (·.1) := List.mem_map.mpr ⟨l, hl, rfl⟩
      rw [hp] at this
      have := (sortS_perm _).mem_iff.mp this
      exact hrs.mem_iff.mp (List.mem_of_mem_take this)
theorem M_of {f : FnSem} {ds : List D} {d : D} (h : ∀ st, f ds st = some (.ok d, st)) : f ds = pure d := funext h
theorem is_plant_M {n : Nat} {d : D} (h : nice n d = true) : f_is_plant [d] = pure (.bool (isPlant d)) := M_of (is_plant_eq h)
theorem law_end {x : M (Fl × Env)} (h : Wp x 9000000 (fun r => r.1 = .rt (.bool true))) : ∃ e st', x [] = some (.ok (.rt (.bool true), e), st') := by
  obtain ⟨⟨fl, e⟩, st', h1, h2, _⟩ := h [] (by decide)
  cases h2
  exact ⟨e, st', h1⟩
end TK.P
namespace TK.P
open PySem TK L2
@[simp high] theorem walk_zip_map {α β : Type} (f : α → D) (g : β → D) (l : List α) (m : List β) : walkL .zip2 [.tuple (l.map f), .tuple (m.map g)] = some ((l.zip m).map fun x => .tuple [f x.1, g x.2]) := by
  show some (((l.map f).zip (m.map g)).map fun p => PyData.tuple [p.1, p.2]) = _
  rw [List.zip_map, List.map_map]
  rfl
@[simp high] theorem walk_zip_mapL {α β : Type} (f : α → D) (g : β → D) (l : List α) (m : List β) : walkL .zip2 [.list (l.map f), .list (m.map g)] = some ((l.zip m).map fun x => .tuple [f x.1, g x.2]) := by
  show some (((l.map f).zip (m.map g)).map fun p => PyData.tuple [p.1, p.2]) = _
  rw [List.zip_map, List.map_map]
  rfl
def held (l : Lock) (b : Bool) : List Str := if b then l.2.2 else l.2.1
@[simp] theorem atI_lock (l : Lock) (b : Bool) : atI ([.str l.1, .tuple (l.2.1.map .str), .tuple (l.2.2.map .str)] : List PyData) (1 + bit b) = some (.tuple ((held l b).map PyData.str)) := by
  cases b <;> rfl
@[simp] theorem ix_lock0 (l : Lock) : app2 .ix (lockD l) (.int 0) = some (.str l.1) := rfl
@[simp] theorem ix_lock1 (l : Lock) : app2 .ix (lockD l) (.int 1) = some (.tuple (l.2.1.map .str)) := rfl
@[simp] theorem ix_lock2 (l : Lock) : app2 .ix (lockD l) (.int 2) = some (.tuple (l.2.2.map .str)) := rfl
@[simp] theorem ix_lockb (l : Lock) (b : Bool) : app2 .ix (lockD l) (.int (1 + bit b)) = some (.tuple ((held l b).map .str)) := atI_lock l b
theorem held_by_eq (l : Lock) (b : Bool) : f_held_by [lockD l, bD b] = pure (.tuple ((held l b).map .str)) := by
  unfold f_held_by
  rw [run_eq rfl]
  simp [b_held_by, esc, escB, lockD, bD]
def isBit : D → Bool
  | .int i => decide (i = 0 ∨ i = 1)
  | _ => false
def bitOf : D → Bool
  | .int i => decide (i = 1)
  | _ => false
theorem is_integer_eq {d : D} (h : ∀ l, d ≠ .dict l) : f_is_integer [d, .int 0, .int 1] = pure (.bool (isBit d)) := by
  unfold f_is_integer
  rw [run_eq rfl]
  cases d with
  | dict l => exact absurd rfl (h l)
  | int i =>
    have e : isBit (.int i) = (decide (0 ≤ i) && decide (i ≤ 1)) := by
      show decide (i = 0 ∨ i = 1) = _
      rw [← Bool.decide_and]
      congr 1
      apply propext
      omega
    rw [e]
    simp [b_is_integer, esc, escB]
  | _ => simp [b_is_integer, esc, escB, isBit, typ]
theorem nice_nodict {n : Nat} {d : D} (h : nice n d = true) : ∀ l, d ≠ .dict l := fun l e => by subst e; cases n <;> cases h
def arePl (p : List Lock) : D → Bool
  | .tuple l => decide (l.length = p.length) && l.all isBit
  | _ => false
theorem are_places_eq {n : Nat} (p : List Lock) {d : D} (h : nice n d = true) : f_are_places [plantD p, d] = pure (.bool (arePl p d)) := by
  unfold f_are_places
  rw [run_eq rfl]
  cases d with
  | tuple l =>
    obtain ⟨m, rfl, _, hl⟩ := nice_tup h
    simp [b_are_places, plantD]
    by_cases hc : l.length = p.length
    · rw [if_pos (by rw [hc])]
      refine comp_mapDB (fun d => .bool (isBit d)) (fun d hd => ?_) ?_
      · simp [compF, is_integer_eq (nice_nodict (hl d hd))]
      · simp [boolsOf_map, arePl, hc]
    · rw [if_neg (by omega)]
      simp [arePl, hc]
  | dict l => cases n <;> cases h
  | _ => simp [b_are_places, typ, arePl]
def heldL (x : List (Lock × Bool)) : List Str := (x.map fun x => held x.1 x.2).flatten
theorem heldL_app (x y : List (Lock × Bool)) : heldL (x ++ y) = heldL x ++ heldL y := by simp [heldL]
theorem heldL_cons (a : Lock × Bool) (x : List (Lock × Bool)) : heldL (a :: x) = held a.1 a.2 ++ heldL x := rfl
theorem heldL_one (a : Lock × Bool) : heldL [a] = held a.1 a.2 := by simp [heldL]
def heldAll (p : List Lock) (r : List Bool) : List Str := heldL (p.zip r)
def fitsB (p : List Lock) (r : List Bool) : Bool := decide (heldAll p r).Nodup
theorem nub_nodup {l : List Str} (h : l.Nodup) : (nub l).length = l.length := nodup_len (nodup_nub l) h fun x => mem_nub
theorem nub_le : ∀ l : List Str, (nub l).length ≤ l.length
  | [] => Nat.le_refl _
  | x :: xs => by
    rw [nub, List.length_cons, List.length_cons]
    have := List.length_filter_le (fun y => decide (y ≠ x)) (nub xs)
    have := nub_le xs
    omega
theorem nub_eq_iff {l : List Str} : (nub l).length = l.length ↔ l.Nodup := by
  refine ⟨fun h => ?_, nub_nodup⟩
  induction l with
  | nil => exact .nil
  | cons x xs ih =>
    rw [nub, List.length_cons, List.length_cons] at h
    have h1 := List.length_filter_le (fun y => decide (y ≠ x)) (nub xs)
    have h2 := nub_le xs
    refine List.nodup_cons.mpr ⟨fun hx => ?_, ih (by omega)⟩
    have h3 : ((nub xs).filter fun y => decide (y ≠ x)).length = (nub xs).length := by omega
    have := List.length_filter_eq_length_iff.mp h3 x (mem_nub.mpr hx)
    simp at this
theorem held_len {p : List Lock} (hk : ∀ l ∈ p, l.2.1.length ≤ 6 ∧ l.2.2.length ≤ 6) {l : Lock} (hl : l ∈ p) (b : Bool) : (held l b).length ≤ 6 := by
  cases b
  · exact (hk l hl).1
  · exact (hk l hl).2
theorem flat_len {α : Type} (f : α → List Str) {c : Nat} : ∀ (l : List α), (∀ a ∈ l, (f a).length ≤ c) → (l.map f).flatten.length ≤ c * l.length
  | [], _ => by simp
  | a :: l, h => by
    rw [List.map_cons, List.flatten_cons, List.length_append, List.length_cons, Nat.mul_succ]
    have := flat_len f l fun x hx => h x (List.mem_cons_of_mem _ hx)
    have := h a List.mem_cons_self
    omega
theorem heldAll_len {p : List Lock} (hk : ∀ l ∈ p, l.2.1.length ≤ 6 ∧ l.2.2.length ≤ 6) (hp : p.length ≤ 8) (r : List Bool) : (heldAll p r).length ≤ 48 := by
  have := flat_len (fun x : Lock × Bool => held x.1 x.2) (p.zip r) fun a ha => held_len hk (List.of_mem_zip ha).1 a.2
  have h2 : (p.zip r).length ≤ 8 := by rw [List.length_zip]; omega
  unfold heldAll heldL
  omega
/-- what the sizes of a plant are -/
structure Sized (p : List Lock) : Prop where
  len : p.length ≤ 8
  keys : ∀ l ∈ p, l.2.1.length ≤ 6 ∧ l.2.2.length ≤ 6
theorem setLen_strs (ss : List Str) (h : ss.length < 4000) : app1 .setLen (.list (ss.map .str)) = some (.int (nub ss).length) := by
  simp [strsOf_map, h]
theorem fits_eq {p : List Lock} (hp : Sized p) (r : List Bool) : f_fits [plantD p, rowD r] = pure (.bool (fitsB p r)) := by
  unfold f_fits
  rw [run_eq rfl]
  simp [b_fits, plantD, rowD, limv]
  have hl := heldAll_len hp.keys hp.len r
  refine forL_preB (τ := Slot × Slot) (fun done t => [.val (.tuple (p.map lockD)), .val (.tuple (r.map bD)), .own (.list ((heldL done).map .str)), t.1, t.2]) (.no, .no) rfl ?_ ?_
  · intro done a rest hsp t
    have hb : (heldL done).length + (held a.1 a.2).length ≤ 48 := by
      unfold heldAll at hl
      rw [hsp, heldL_app, heldL_cons, List.length_append, List.length_append] at hl
      omega
    refine ⟨_, (.val (lockD a.1), .val (bD a.2)), rfl, ?_⟩
    have hb2 : (heldL done).length + (held a.1 a.2).length ≤ 16777216 := by omega
    simp [held_by_eq, limv, hb2, heldL_app, heldL_one]
  · intro t
    have h1 : (nub (heldAll p r)).length = (heldAll p r).length ↔ (heldAll p r).Nodup := nub_eq_iff
    have := setLen_strs (heldAll p r) (by omega)
    show (exs [f_held_by] _ [_, _, .own (.list ((heldAll p r).map .str)), _, _] >>= retM) = _
    simp [-app1_setLen, this, fitsB, ← h1]
    congr 2
    apply Bool.eq_iff_iff.mpr
    simp
    omega
def okKeys (ks : List Str) : Bool := decide (ks.length ≤ 6) && ks.all isWordS && ascS ks
def okLock (l : Lock) : Bool := isWordS l.1 && okKeys l.2.1 && okKeys l.2.2
def okPlant (p : List Lock) : Bool := decide (1 ≤ p.length ∧ p.length ≤ 8) && p.all okLock && ascS (p.map (·.1))
theorem areKeys_D (ks : List Str) : areKeys (.tuple (ks.map .str)) = okKeys ks := by
  show (decide ((ks.map PyData.str).length ≤ 6) && (ks.map PyData.str).all isWord && ascS (txts (ks.map .str))) = _
  rw [List.length_map, List.all_map, txts_map]
  rfl
theorem isLock_D (l : Lock) : isLock (lockD l) = okLock l := by
  show (isWord (.str l.1) && areKeys (.tuple (l.2.1.map .str)) && areKeys (.tuple (l.2.2.map .str))) = _
  rw [areKeys_D, areKeys_D]
  rfl
theorem isPlant_D (p : List Lock) : isPlant (plantD p) = okPlant p := by
  show (decide (1 ≤ (p.map lockD).length ∧ (p.map lockD).length ≤ 8) && (p.map lockD).all isLock && ascS ((p.map lockD).map nameOf)) = _
  rw [List.length_map, List.all_map, List.map_map]
  have h1 : (fun x => isLock x) ∘ lockD = okLock := funext fun l => isLock_D l
  rw [show (isLock ∘ lockD) = okLock from h1]
  rfl
abbrev OkP (p : List Lock) : Prop := okPlant p = true
theorem okKeys_iff {ks : List Str} : okKeys ks = true ↔ ks.length ≤ 6 ∧ (∀ k ∈ ks, isWordS k = true) ∧ ascS ks = true := by
  simp [okKeys, and_assoc]
theorem okP_iff {p : List Lock} : OkP p ↔ (1 ≤ p.length ∧ p.length ≤ 8) ∧ (∀ l ∈ p, isWordS l.1 = true ∧ okKeys l.2.1 = true ∧ okKeys l.2.2 = true) ∧ ascS (p.map (·.1)) = true := by
  simp only [OkP, okPlant, okLock, Bool.and_eq_true, decide_eq_true_eq, List.all_eq_true, and_assoc]
theorem OkP.sized {p : List Lock} (h : OkP p) : Sized p := by
  obtain ⟨⟨_, h1⟩, h2, _⟩ := okP_iff.mp h
  exact ⟨h1, fun l hl => ⟨(okKeys_iff.mp (h2 l hl).2.1).1, (okKeys_iff.mp (h2 l hl).2.2).1⟩⟩
theorem word_len {s : Str} (h : isWordS s = true) : s.length ≤ 4 := by
  simp only [isWordS, Bool.and_eq_true, decide_eq_true_eq] at h
  exact h.1.2
theorem nice_strs {ks : List Str} (n : Nat) (hl : ks.length ≤ 1000) (h : ∀ k ∈ ks, isWordS k = true) : nice (n + 1) (.tuple (ks.map .str)) = true := by
  simp only [nice, Bool.and_eq_true, decide_eq_true_eq, List.all_eq_true, List.length_map]
  refine ⟨hl, fun x hx => ?_⟩
  obtain ⟨s, hs, rfl⟩ := List.mem_map.mp hx
  have := word_len (h s hs)
  cases n <;> simp [nice] <;> omega
theorem nice_lock {l : Lock} (n : Nat) (h : isWordS l.1 = true ∧ okKeys l.2.1 = true ∧ okKeys l.2.2 = true) : nice (n + 2) (lockD l) = true := by
  have h1 := okKeys_iff.mp h.2.1
  have h2 := okKeys_iff.mp h.2.2
  have a := nice_strs n (by omega) h1.2.1
  have b := nice_strs n (by omega) h2.2.1
  have c := word_len h.1
  have hs : nice (n + 1) (.str l.1) = true := by simp [nice]; omega
  unfold lockD
  simp only [nice, Bool.and_eq_true, decide_eq_true_eq, List.all_eq_true]
  refine ⟨by simp, fun x hx => ?_⟩
  simp only [List.mem_cons, List.not_mem_nil, or_false] at hx
  rcases hx with rfl | rfl | rfl
  · exact hs
  · exact a
  · exact b
theorem OkP.nice {p : List Lock} (h : OkP p) (n : Nat) : nice (n + 3) (plantD p) = true := by
  obtain ⟨⟨_, h1⟩, h2, _⟩ := okP_iff.mp h
  unfold plantD
  simp only [TK.P.nice, Bool.and_eq_true, decide_eq_true_eq, List.all_eq_true, List.length_map]
  refine ⟨by omega, fun x hx => ?_⟩
  obtain ⟨l, hl, rfl⟩ := List.mem_map.mp hx
  exact nice_lock n (h2 l hl)
theorem drawn_words : ∀ s ∈ drawnNames, isWordS s = true := List.all_eq_true.mp (by decide +kernel)
theorem drawnK_words : ∀ s ∈ drawnKeys, isWordS s = true := List.all_eq_true.mp (by decide +kernel)
theorem Drawn.ok {m : Nat} {p : List Lock} (hm : m ≤ 8) (h : Drawn m p) : OkP p := by
  have ks : ∀ ks : List Str, KeysOk ks → okKeys ks = true := fun ks hk => okKeys_iff.mpr ⟨by have := hk.2.1; omega, fun k h => drawnK_words k (hk.2.2 k h), hk.1⟩
  exact okP_iff.mpr ⟨⟨h.pos, by have := h.len; omega⟩, fun l hl => ⟨drawn_words _ (h.nms l hl), ks _ (h.fst l hl), ks _ (h.snd l hl)⟩, h.asc⟩
theorem require_plant_eq {n : Nat} {d : D} (h : nice n d = true) : f_require_plant [d] = if isPlant d = true then pure .none else throwX "InvalidPlant" := by
  unfold f_require_plant
  rw [run_eq rfl]
  simp [b_require_plant, is_plant_M h]
  cases isPlant d <;> simp
theorem require_plant_ok {p : List Lock} (h : OkP p) : f_require_plant [plantD p] = pure .none := by
  rw [require_plant_eq (h.nice 0), isPlant_D, h]; rfl
theorem require_plant_no {n : Nat} {d : D} (h : nice n d = true) (hp : isPlant d = false) : f_require_plant [d] = throwX "InvalidPlant" := by
  rw [require_plant_eq h, hp]; rfl
def isSt (p : List Lock) : D → Bool
  | .tuple l => decide (l.length = p.length) && l.all isBit && fitsB p (l.map bitOf)
  | _ => false
theorem bits_row {l : List D} (h : l.all isBit = true) : l = (l.map bitOf).map bD := by
  rw [List.map_map]
  conv => lhs; rw [← List.map_id l]
  refine List.map_congr_left fun x hx => ?_
  have := List.all_eq_true.mp h x hx
  cases x with
  | int i =>
    have := of_decide_eq_true this
    rcases this with rfl | rfl <;> rfl
  | _ => cases this
theorem valid_eq {n : Nat} {p : List Lock} (hp : Sized p) {d : D} (h : nice n d = true) : f_is_valid_state [plantD p, d] = pure (.bool (isSt p d)) := by
  unfold f_is_valid_state
  rw [run_eq rfl]
  simp [b_is_valid_state, are_places_eq p h]
  cases ha : arePl p d with
  | false =>
    have : isSt p d = false := by
      cases d with
      | tuple l =>
        have ha : (decide (l.length = p.length) && l.all isBit) = false := ha
        show (decide (l.length = p.length) && l.all isBit && _) = false
        rw [ha]; rfl
      | _ => rfl
    simp [this]
  | true =>
    cases d with
    | tuple l =>
      have ha : (decide (l.length = p.length) && l.all isBit) = true := ha
      have hb := (Bool.and_eq_true_iff.mp ha).2
      have e : (PyData.tuple l) = rowD (l.map bitOf) := by
        show _ = PyData.tuple _
        rw [← bits_row hb]
      have e2 : isSt p (.tuple l) = fitsB p (l.map bitOf) := by
        show (decide (l.length = p.length) && l.all isBit && _) = _
        rw [ha]; rfl
      rw [e2]
      rw [e, fits_eq hp]
      simp
    | _ => cases ha
theorem isSt_row (p : List Lock) (r : List Bool) : isSt p (rowD r) = (decide (r.length = p.length) && fitsB p r) := by
  show (decide ((r.map bD).length = p.length) && (r.map bD).all isBit && fitsB p ((r.map bD).map bitOf)) = _
  rw [List.length_map, List.map_map]
  have h1 : (r.map bD).all isBit = true := by
    rw [List.all_map, List.all_eq_true]
    intro b _
    cases b <;> rfl
  have h2 : (bitOf ∘ bD) = id := funext fun b => by cases b <;> rfl
  rw [h1, h2, List.map_id, Bool.and_true]
theorem nice_row (r : List Bool) (hl : r.length ≤ 1000) (n : Nat) : nice (n + 1) (rowD r) = true := by
  unfold rowD
  simp only [nice, Bool.and_eq_true, decide_eq_true_eq, List.all_eq_true, List.length_map]
  refine ⟨hl, fun x hx => ?_⟩
  obtain ⟨b, _, rfl⟩ := List.mem_map.mp hx
  cases n <;> rfl
theorem require_state_eq {n : Nat} {p : List Lock} (hp : OkP p) {d : D} (h : nice n d = true) : f_require_state [plantD p, d] = if isSt p d = true then pure .none else throwX "InvalidState" := by
  unfold f_require_state
  rw [run_eq rfl]
  simp [b_require_state, require_plant_ok hp, valid_eq hp.sized h]
  cases isSt p d <;> simp
end TK.P
namespace TK.P
open PySem TK L2
theorem dep_succ : ∀ {n : Nat} {d : D}, dep n d = true → dep (n + 1) d = true
  | n, .none, _ => by cases n <;> rfl
  | n, .bool _, _ => by cases n <;> rfl
  | n, .int _, _ => by cases n <;> rfl
  | n, .str _, _ => by cases n <;> rfl
  | 0, .list _, h => by cases h
  | 0, .tuple _, h => by cases h
  | n + 1, .list l, h => by
    have h : l.all (dep n) = true := h
    show l.all (dep (n + 1)) = true
    rw [List.all_eq_true] at h ⊢
    exact fun x hx => dep_succ (h x hx)
  | n + 1, .tuple l, h => by
    have h : l.all (dep n) = true := h
    show l.all (dep (n + 1)) = true
    rw [List.all_eq_true] at h ⊢
    exact fun x hx => dep_succ (h x hx)
  | n, .dict _, h => by cases n <;> cases h
theorem dep_le {n m : Nat} {d : D} (h : n ≤ m) (hd : dep n d = true) : dep m d = true := by
  induction m with
  | zero => obtain rfl : n = 0 := by omega
            exact hd
  | succ m ih =>
    by_cases e : n = m + 1
    · rw [← e]; exact hd
    · exact dep_succ (ih (by omega))
/-- f tells values apart, at depth k -/
class Enc {α : Type} [DecidableEq α] (f : α → D) (k : outParam Nat) : Prop where
  eq : ∀ a b, PyData.eqv (f a) (f b) = decide (a = b)
  dp : ∀ a, dep k (f a) = true
section
variable {α β : Type} [DecidableEq α] [DecidableEq β] {f : α → D} {g : β → D} {k : Nat}
theorem eqvAll_map [Enc f k] : ∀ (l m : List α), PyData.eqvAll (l.map f) (m.map f) = decide (l = m)
  | [], [] => rfl
  | [], _ :: _ => rfl
  | _ :: _, [] => rfl
  | a :: l, b :: m => by
    rw [List.map_cons, List.map_cons, PyData.eqvAll, eqvAll_map l m, Enc.eq (f := f)]
    by_cases h : a = b
    · subst h; simp
    · simp [h]
theorem dep_map [Enc f k] (l : List α) : (l.map f).all (dep k) = true := by
  rw [List.all_map, List.all_eq_true]
  exact fun a _ => Enc.dp a
instance : Enc PyData.str 0 := ⟨fun a b => by rw [PyData.eqv]; rfl, fun _ => rfl⟩
instance : Enc PyData.int 0 := ⟨fun a b => by rw [PyData.eqv]; rfl, fun _ => rfl⟩
instance : Enc bD 0 := ⟨fun a b => by unfold bD; rw [PyData.eqv]; cases a <;> cases b <;> rfl, fun _ => rfl⟩
instance [Enc f k] : Enc (fun l : List α => PyData.list (l.map f)) (k + 1) := ⟨fun a b => by rw [PyData.eqv, eqvAll_map], fun a => dep_map a⟩
instance [Enc f k] : Enc (fun l : List α => PyData.tuple (l.map f)) (k + 1) := ⟨fun a b => by rw [PyData.eqv, eqvAll_map], fun a => dep_map a⟩
instance : Enc rowD 1 := ⟨fun a b => by unfold rowD; rw [PyData.eqv, eqvAll_map], fun a => dep_map a⟩
instance : Enc lockD 2 := ⟨fun a b => by
  unfold lockD
  have h1 := Enc.eq (f := PyData.str) a.1 b.1
  have h2 := Enc.eq (f := fun l : List Str => PyData.tuple (l.map .str)) a.2.1 b.2.1
  have h3 := Enc.eq (f := fun l : List Str => PyData.tuple (l.map .str)) a.2.2 b.2.2
  simp only [PyData.eqv, PyData.eqvAll] at h1 h2 h3 ⊢
  rw [h1, h2, h3]
  obtain ⟨a1, a2, a3⟩ := a
  obtain ⟨b1, b2, b3⟩ := b
  simp only [Prod.mk.injEq, Bool.and_true]
  by_cases e1 : a1 = b1 <;> by_cases e2 : a2 = b2 <;> by_cases e3 : a3 = b3 <;> simp [e1, e2, e3], fun a => by
  have h2 := Enc.dp (f := fun l : List Str => PyData.tuple (l.map .str)) a.2.1
  have h3 := Enc.dp (f := fun l : List Str => PyData.tuple (l.map .str)) a.2.2
  unfold lockD
  simp only [dep, List.all_cons, List.all_nil, Bool.and_true, Bool.true_and] at h2 h3 ⊢
  rw [h2, h3]; rfl⟩
instance : Enc plantD 3 := ⟨fun a b => by unfold plantD; rw [PyData.eqv, eqvAll_map], fun a => dep_map a⟩
theorem eqD_enc (f : α → D) [Enc f k] (hk : k ≤ 60) (a b : α) : eqD (f a) (f b) = some (decide (a = b)) := by
  unfold eqD
  rw [dep_le hk (Enc.dp a), dep_le hk (Enc.dp b), Enc.eq]
  rfl
theorem any_enc [Enc f k] (a : α) : ∀ l : List α, ((l.map f).any fun y => PyData.eqv y (f a)) = decide (a ∈ l)
  | [] => rfl
  | b :: l => by
    rw [List.map_cons, List.any_cons, any_enc a l, Enc.eq]
    by_cases h : b = a
    · subst h; simp
    · simp [h, Ne.symm h]
theorem all_dep [Enc f k] (hk : k ≤ 60) (l : List α) : (l.map f).all (dep 60) = true := by
  rw [List.all_map, List.all_eq_true]
  exact fun a _ => dep_le hk (Enc.dp a)
theorem in_encL (f : α → D) [Enc f k] (hk : k ≤ 60) (a : α) (l : List α) : app2 .isin (f a) (.list (l.map f)) = some (.bool (decide (a ∈ l))) := by
  rw [app2_in_l, dep_le hk (Enc.dp a), all_dep hk l, any_enc]; rfl
theorem in_encT (f : α → D) [Enc f k] (hk : k ≤ 60) (a : α) (l : List α) : app2 .isin (f a) (.tuple (l.map f)) = some (.bool (decide (a ∈ l))) := by
  rw [app2_in_t, dep_le hk (Enc.dp a), all_dep hk l, any_enc]; rfl
theorem notin_encL (f : α → D) [Enc f k] (hk : k ≤ 60) (a : α) (l : List α) : app2 .notin (f a) (.list (l.map f)) = some (.bool (!decide (a ∈ l))) := by
  rw [app2_notin_l, dep_le hk (Enc.dp a), all_dep hk l, any_enc]; rfl
theorem notin_encT (f : α → D) [Enc f k] (hk : k ≤ 60) (a : α) (l : List α) : app2 .notin (f a) (.tuple (l.map f)) = some (.bool (!decide (a ∈ l))) := by
  rw [app2_notin_t, dep_le hk (Enc.dp a), all_dep hk l, any_enc]; rfl
end
@[simp high] theorem in_strs_l (a : Str) (l : List Str) : app2 .isin (.str a) (.list (l.map .str)) = some (.bool (decide (a ∈ l))) := in_encL PyData.str (by decide) a l
@[simp high] theorem in_strs_t (a : Str) (l : List Str) : app2 .isin (.str a) (.tuple (l.map .str)) = some (.bool (decide (a ∈ l))) := in_encT PyData.str (by decide) a l
@[simp high] theorem notin_strs_l (a : Str) (l : List Str) : app2 .notin (.str a) (.list (l.map .str)) = some (.bool (!decide (a ∈ l))) := notin_encL PyData.str (by decide) a l
@[simp high] theorem notin_strs_t (a : Str) (l : List Str) : app2 .notin (.str a) (.tuple (l.map .str)) = some (.bool (!decide (a ∈ l))) := notin_encT PyData.str (by decide) a l
@[simp high] theorem eqD_strs_l (l m : List Str) : eqD (.list (l.map .str)) (.list (m.map .str)) = some (decide (l = m)) := eqD_enc (fun l : List Str => PyData.list (l.map .str)) (by decide) l m
@[simp high] theorem eqD_strs_t (l m : List Str) : eqD (.tuple (l.map .str)) (.tuple (m.map .str)) = some (decide (l = m)) := eqD_enc (fun l : List Str => PyData.tuple (l.map .str)) (by decide) l m
@[simp high] theorem eqD_row (l m : List Bool) : eqD (rowD l) (rowD m) = some (decide (l = m)) := eqD_enc rowD (by decide) l m
@[simp high] theorem eqD_rows (l m : List (List Bool)) : eqD (.list (l.map rowD)) (.list (m.map rowD)) = some (decide (l = m)) := eqD_enc (fun l : List (List Bool) => PyData.list (l.map rowD)) (by decide) l m
@[simp high] theorem in_rows (a : List Bool) (l : List (List Bool)) : app2 .isin (rowD a) (.list (l.map rowD)) = some (.bool (decide (a ∈ l))) := (in_encL rowD (by decide) a l).trans (by congr)
@[simp high] theorem notin_rows (a : List Bool) (l : List (List Bool)) : app2 .notin (rowD a) (.list (l.map rowD)) = some (.bool (!decide (a ∈ l))) := (notin_encL rowD (by decide) a l).trans (by congr)
@[simp high] theorem eqD_plant (a b : List Lock) : eqD (plantD a) (plantD b) = some (decide (a = b)) := eqD_enc plantD (by decide) a b
def allKL (p : List Lock) : List Str := (p.map fun l => l.2.1 ++ l.2.2).flatten
def keysOf (p : List Lock) : List Str := sortS (nub (allKL p))
theorem mem_keysOf {p : List Lock} {k : Str} : k ∈ keysOf p ↔ k ∈ allKL p := by
  unfold keysOf
  rw [(sortS_perm _).mem_iff, mem_nub]
end TK.P
namespace TK.P
open PySem TK L2
theorem nodup_int {p : List Lock} {r : List Bool} (h1 : (nub (heldAll p r)).length = (heldAll p r).length ↔ (heldAll p r).Nodup) : (decide (((nub (heldAll p r)).length : Int) = ((heldAll p r).length : Int))) = decide (heldAll p r).Nodup := by
  apply Bool.eq_iff_iff.mpr
  simp [← h1]
  omega
theorem law_fits_eq {p : List Lock} (hp : Sized p) (r : List Bool) : f__law_fits [plantD p, rowD r] = pure (.bool (fitsB p r)) := by
  unfold f__law_fits
  rw [run_eq rfl]
  simp [b__law_fits, plantD, rowD, limv]
  have hl := heldAll_len hp.keys hp.len r
  refine forL_preB (τ := Slot × Slot) (fun done t => [.val (.tuple (p.map lockD)), .val (.tuple (r.map bD)), .val (.list ((heldL done).map .str)), t.1, t.2]) (.no, .no) rfl ?_ ?_
  · intro done a rest hsp t
    have hb : (heldL done).length + (held a.1 a.2).length ≤ 48 := by
      unfold heldAll at hl
      rw [hsp, heldL_app, heldL_cons, List.length_append, List.length_append] at hl
      omega
    refine ⟨_, (.val (lockD a.1), .val (bD a.2)), rfl, ?_⟩
    have hb2 : (heldL done).length + (held a.1 a.2).length ≤ 16777216 := by omega
    simp [bD, limv, hb2, heldL_app, heldL_one]
  · intro t
    have h1 : (nub (heldAll p r)).length = (heldAll p r).length ↔ (heldAll p r).Nodup := nub_eq_iff
    have := setLen_strs (heldAll p r) (by omega)
    show (exs [] _ [_, _, .val (.list ((heldAll p r).map .str)), _, _] >>= retM) = _
    simp [-app1_setLen, this, fitsB]
    exact congrArg (fun b => (pure (PyData.bool b) : M D)) (nodup_int h1)
def vecs : Nat → List (List Bool)
  | 0 => [[]]
  | n + 1 => (vecs n).flatMap fun r => [r ++ [false], r ++ [true]]
theorem vecs_len : ∀ n, (vecs n).length = 2 ^ n
  | 0 => rfl
  | n + 1 => by
    rw [vecs, List.length_flatMap, Nat.pow_succ]
    have : ((vecs n).map fun r => [r ++ [false], r ++ [true]].length) = (vecs n).map fun _ => 2 := rfl
    rw [this, List.map_const', List.sum_replicate_nat, vecs_len n]
theorem vecs_mem : ∀ {n : Nat} {r : List Bool}, r ∈ vecs n ↔ r.length = n
  | 0, r => by simp [vecs]
  | n + 1, r => by
    rw [vecs, List.mem_flatMap]
    constructor
    · rintro ⟨q, hq, hr⟩
      have := vecs_mem.mp hq
      simp only [List.mem_cons, List.not_mem_nil, or_false] at hr
      rcases hr with rfl | rfl <;> simp [this]
    · intro h
      have hne : r ≠ [] := fun e => by rw [e] at h; cases h
      refine ⟨r.dropLast, vecs_mem.mpr (by rw [List.length_dropLast]; omega), ?_⟩
      have := List.dropLast_concat_getLast hne
      cases hb : r.getLast hne
      · rw [hb] at this; rw [this]; simp
      · rw [hb] at this; rw [this]; simp
def ext2 (l : List (List Bool)) : List (List Bool) := l.flatMap fun r => [r ++ [false], r ++ [true]]
theorem ext2_app (x y : List (List Bool)) : ext2 (x ++ y) = ext2 x ++ ext2 y := by simp [ext2]
theorem ext2_one (r : List Bool) : ext2 [r] = [r ++ [false], r ++ [true]] := by simp [ext2]
theorem ext2_len (x : List (List Bool)) : (ext2 x).length = 2 * x.length := by
  unfold ext2
  rw [List.length_flatMap]
  have : (x.map fun r => [r ++ [false], r ++ [true]].length) = x.map fun _ => 2 := rfl
  rw [this, List.map_const', List.sum_replicate_nat]; omega
theorem vectors_eq {n : Nat} (hn : n ≤ 10) : f__law_vectors [.int n] = pure (.list ((vecs n).map rowD)) := by
  unfold f__law_vectors
  rw [run_eq rfl]
  have hn2 : n ≤ 16777216 := by omega
  simp [b__law_vectors, limv, rangeL, hn2]
  refine forL_preB (τ := Slot × Slot × Slot) (fun done t => [.val (.int n), .val (.list ((vecs done.length).map rowD)), t.1, t.2.1, t.2.2]) (.no, .no, .no) rfl ?_ ?_
  · intro done a rest hsp t
    have hdl : done.length < n := by
      have := congrArg List.length hsp
      simp at this
      omega
    have hv := vecs_len done.length
    have hv2 : 2 ^ done.length ≤ 1024 := Nat.le_trans (Nat.pow_le_pow_right (by decide) (by omega : done.length ≤ 10)) (by decide)
    have h3 : ∀ r ∈ vecs done.length, r.length ≤ 10 := fun r hr => by have := vecs_mem.mp hr; omega
    generalize hw : vecs done.length = w at *
    refine ⟨_, (.val (.int (0 + a)), .val (.list ((ext2 w).map rowD)), ?sl), rfl, ?_⟩
    case sl => exact if h : w = [] then t.2.2 else .val (rowD (w.getLast h))
    conv => lhs; simp [limv]
    refine forL_preB (τ := Slot) (fun dn s4 => [.val (.int n), .val (.list (w.map rowD)), .val (.int (0 + a)), .val (.list ((ext2 dn).map rowD)), if h : dn = [] then t.2.2 else .val (rowD (dn.getLast h))]) .no (by simp [ext2]) ?_ ?_
    · intro dn x rs hsp2 s4
      have h4 := h3 x (by rw [hsp2]; simp)
      have h5 : (ext2 dn).length + 2 ≤ 16777216 := by
        have := congrArg List.length hsp2
        rw [List.length_append, List.length_cons] at this
        rw [ext2_len]; omega
      refine ⟨_, .no, rfl, ?_⟩
      have h6 : x.length ≤ 16777215 := by omega
      simp [rowD, limv, h5, h6, ext2_app, ext2_one, bD, bit]
    · intro s4
      simp
      rw [show vecs (done.length + 1) = ext2 (vecs done.length) from rfl, hw]
  · intro t
    simp
def statesOf (p : List Lock) : List (List Bool) := (vecs p.length).filter (fitsB p)
theorem law_states_eq {p : List Lock} (hp : Sized p) : f__law_states [plantD p] = pure (.list ((statesOf p).map rowD)) := by
  unfold f__law_states
  rw [run_eq rfl]
  have := hp.len
  have hv := vectors_eq (n := p.length) (by omega)
  simp [b__law_states, plantD]
  rw [hv]
  simp
  refine comp_filterB (fitsB p) rowD (fun r hr => ?_) ?_
  · have := law_fits_eq hp r
    unfold plantD at this
    simp [compF, this]
  · rfl
/-- a drawn plant with its states and one of them -/
def someD (p : List Lock) (r : List Bool) : D := .tuple [plantD p, .list ((statesOf p).map rowD), rowD r]
theorem drawn_one : Drawn 1 [("a", [], [])] := ⟨by decide, by decide, rfl, by decide +kernel, by decide +kernel, by decide +kernel⟩
theorem Drawn.mono {m m' : Nat} {p : List Lock} (h : Drawn m p) (hm : m ≤ m') : Drawn m' p := ⟨h.pos, Nat.le_trans h.len hm, h.asc, h.nms, h.fst, h.snd⟩
theorem states_one : statesOf [("a", [], [])] = [[false], [true]] := by decide +kernel
theorem some_wp {ns : List Int} (hns : ns.length ≤ 63) {m : Nat} (hm : 1 ≤ m) (hm8 : m ≤ 8) : Wp (f__law_some [scr ns, tok, .int m]) 9000 (fun d => ∃ p r, d = someD p r ∧ Drawn m p ∧ r ∈ statesOf p) := by
  unfold f__law_some
  rw [run_eq rfl]
  conv => arg 1; simp [b__law_some, limv, rangeL]
  refine Wp.forR _ (fun env => ∃ s3 s4 s5, env = [.val (scr ns), .val tok, .val (.int m), s3, s4, s5]) (fun d => ∃ p r, d = someD p r ∧ Drawn m p ∧ r ∈ statesOf p) 410 ⟨_, _, _, rfl⟩ (by simp) ?_ ?_ ?_
  · rintro a - env ⟨s3, s4, s5, rfl⟩
    refine ⟨_, rfl, ?_⟩
    conv => arg 1; simp [limv]
    refine Wp.bindB (plant_wp hns hm) (by decide) fun d hd => ?_
    obtain ⟨p, rfl, hp⟩ := hd
    have ok := hp.ok hm8
    conv => arg 1; simp [law_states_eq ok.sized]
    by_cases he : statesOf p = []
    · conv => arg 1; simp [he]
      exact .pure (Or.inl ⟨rfl, _, _, _, rfl⟩)
    · conv => arg 1; simp [he]
      refine Wp.bindB (pick_wp hns (l := (statesOf p).map rowD) (by simpa using he)) (by decide) fun d hd => ?_
      obtain ⟨r, hr, rfl⟩ := List.mem_map.mp hd
      exact .pure (Or.inr ⟨_, rfl, p, r, rfl, hp, hr⟩)
  · rintro env ⟨s3, s4, s5, rfl⟩
    conv => arg 1; simp [limv]
    refine .pure ⟨[("a", [], [])], [false], ?_, drawn_one.mono hm, by rw [states_one]; simp⟩
    unfold someD
    rw [states_one]
    rfl
  · rintro v env hv
    conv => arg 1; simp
    exact .pure hv
def plain : Nat → D → Bool
  | _, .none => true
  | _, .bool _ => true
  | _, .int _ => true
  | _, .str _ => true
  | n + 1, .tuple l => l.all (plain n)
  | _, _ => false
theorem same_refl : ∀ (n fu : Nat) (d : D), n < fu → plain n d = true → f__law_same fu [d, d] = pure (.bool true) := by
  intro n
  induction n with
  | zero =>
    intro fu d hfu hd
    obtain ⟨fu, rfl⟩ : ∃ k, fu = k + 1 := ⟨fu - 1, by omega⟩
    rw [f__law_same, run_eq rfl]
    cases d with
    | tuple l => cases hd
    | list l => cases hd
    | dict l => cases hd
    | _ => simp [b__law_same, typ, notNone]
  | succ n ih =>
    intro fu d hfu hd
    obtain ⟨fu, rfl⟩ : ∃ k, fu = k + 1 := ⟨fu - 1, by omega⟩
    rw [f__law_same, run_eq rfl]
    cases d with
    | tuple l =>
      have hl : ∀ x ∈ l, plain n x = true := List.all_eq_true.mp hd
      simp [b__law_same, typ, notNone]
      refine comp_mapB (fun _ => .bool true) (fun x hx => ?_) ?_
      · have e : x.1 = x.2 := by
          have := List.of_mem_zip hx
          obtain ⟨i, hi, rfl⟩ := List.mem_iff_getElem.mp hx
          simp
        have hm := (List.of_mem_zip hx).1
        have := ih fu x.1 (by omega) (hl _ hm)
        rw [e] at this
        simp [compF, e, this]
      · have := boolsOf_map (fun _ : D × D => true) (l.zip l)
        simp [this]
        congr 2
        simp
    | list l => cases hd
    | dict l => cases hd
    | _ => simp [b__law_same, typ, notNone]
end TK.P
namespace TK.P
open PySem TK L2
section
variable {κ ν : Type} [DecidableEq κ]
def getA : List (κ × ν) → κ → Option ν
  | [], _ => none
  | p :: r, k => if p.1 = k then some p.2 else getA r k
variable {f : κ → D} {g : ν → D} {n : Nat}
end
section
variable {ν : Type} {g : ν → D}
@[simp] theorem mkD_f (l : List (D × D)) : mkD false l = .dict l := rfl
end
end TK.P
namespace TK.P
open PySem TK L2
def namesOf (p : List Lock) : List Str := p.map (·.1)
@[simp high] theorem slc_row_hi (r : List Bool) (k : Nat) : slcD (rowD r) none (some (k : Int)) = some (rowD (r.take k)) := by
  show some (PyData.tuple (cut (r.map bD) none (some (k : Int)))) = _
  rw [cut_hi, ← List.map_take]; rfl
@[simp high] theorem slc_row_lo (r : List Bool) (k : Nat) : slcD (rowD r) (some (k : Int)) none = some (rowD (r.drop k)) := by
  show some (PyData.tuple (cut (r.map bD) (some (k : Int)) none)) = _
  rw [cut_lo, ← List.map_drop]; rfl
@[simp high] theorem slc_row_lo1 (r : List Bool) (k : Nat) : slcD (rowD r) (some ((k : Int) + 1)) none = some (rowD (r.drop (k + 1))) := slc_row_lo r (k + 1)
@[simp high] theorem slc_row_1 (r : List Bool) : slcD (rowD r) (some 1) none = some (rowD (r.drop 1)) := slc_row_lo r 1
def flipB (r : List Bool) (i : Nat) : List Bool := r.set i (!r.getD i false)
@[simp] theorem flipB_len (r : List Bool) (i : Nat) : (flipB r i).length = r.length := by simp [flipB]
theorem OkP.names {p : List Lock} (h : OkP p) : (namesOf p).Nodup := asc_nodup (okP_iff.mp h).2.2
section
variable {n : Nat} {p : List Lock} {r : List Bool} {d w e : D}
theorem st_len (hr : isSt p (rowD r) = true) : r.length = p.length := by
  rw [isSt_row] at hr; simp at hr; exact hr.1
theorem require_state_ok (hp : OkP p) (hr : isSt p (rowD r) = true) : f_require_state [plantD p, rowD r] = pure .none := by
  have := (okP_iff.mp hp).1
  rw [require_state_eq hp (nice_row r (by rw [st_len hr]; omega) 0), if_pos hr]
@[simp] theorem ix_lock_2 (l : Lock) (b : Bool) : app2 .ix (lockD l) (.int (2 - bit b)) = some (.tuple ((held l (!b)).map .str)) := by cases b <;> rfl
@[simp] theorem mul_l0 (x : D) : app2 .mul (.list [x]) (.int 0) = some (.list []) := rfl
@[simp] theorem mul_l1 (x : D) : app2 .mul (.list [x]) (.int 1) = some (.list [x]) := rfl
end
end TK.P
namespace TK.P
open PySem TK L2
@[simp] theorem ltD_i (i j : Int) : ltD (.int i) (.int j) = some (decide (i < j)) := by
  simp [ltD, PySem.W.alike, notNone, dep, PySem.W.dataLt, PySem.W.keyToks, PyProof.Rows.lexLt, PyProof.Rows.itemLt]
abbrev Pos := Str × Bool
def posD (x : Pos) : D := .tuple [.str x.1, bD x.2]
def setD (x : List Pos) : D := .tuple (x.map posD)
instance : Enc posD 1 := ⟨fun a b => by
  obtain ⟨a1, a2⟩ := a
  obtain ⟨b1, b2⟩ := b
  unfold posD
  rw [PyData.eqv]
  simp only [PyData.eqvAll]
  rw [Enc.eq (f := PyData.str), Enc.eq (f := bD)]
  simp [Prod.ext_iff], fun a => rfl⟩
instance : Enc setD 2 := ⟨fun a b => by unfold setD; rw [PyData.eqv, eqvAll_map], fun a => dep_map a⟩
@[simp] theorem ix_pos0 (x : Pos) : app2 .ix (posD x) (.int 0) = some (.str x.1) := rfl
@[simp] theorem ix_pos1 (x : Pos) : app2 .ix (posD x) (.int 1) = some (bD x.2) := rfl
@[simp high] theorem asg_pos (ts : List Tg) (x : Pos) (e : Env) : asgT (.t ts) (posD x) e = asgTs ts [.str x.1, bD x.2] e := rfl
end TK.P
namespace TK
open PySem L2
section
variable {α β : Type} {x : M α} {f : α → M β} {P : α → Prop} {Q : β → Prop}
def Pu (x : M α) (P : α → Prop) : Prop := ∃ a, x = pure a ∧ P a
theorem Pu.pure {a : α} (h : P a) : Pu (pure a : M α) P := ⟨a, rfl, h⟩
theorem Pu.mono {R : α → Prop} (h : Pu x P) (hq : ∀ a, P a → R a) : Pu x R := by
  obtain ⟨a, h1, h2⟩ := h
  exact ⟨a, h1, hq a h2⟩
theorem Pu.eq {a : α} (h : Pu x fun b => b = a) : x = Pure.pure a := by
  obtain ⟨b, h1, rfl⟩ := h
  exact h1
theorem Pu.bindB (h : Pu x P) (k : ∀ a, P a → Pu (f a) Q) : Pu (x >>= f) Q := by
  obtain ⟨a, rfl, h2⟩ := h
  rw [pure_bind']
  exact k a h2
theorem Pu.forB {tg : Tg} {b : Env → M (Fl × Env)} {h : α → D} {k : Fl × Env → M β} (l : List α) (I : List α → Env → Prop) {env : Env} (hi : I [] env)
    (hs : ∀ done a rest, l = done ++ a :: rest → ∀ env, I done env → ∃ env1, asgT tg (h a) env = some env1 ∧ Pu (b env1) (fun r => r.1 = .nx ∧ I (done ++ [a]) r.2))
    (hk : ∀ env, I l env → Pu (k (.nx, env)) Q) : Pu (TK.forL tg b (l.map h) env >>= k) Q := by
  have key : ∀ (r done : List α) (env : Env), l = done ++ r → I done env → Pu (TK.forL tg b (r.map h) env) (fun q => q.1 = .nx ∧ I l q.2) := by
    intro r
    induction r with
    | nil => exact fun done env e1 hi => .pure ⟨rfl, by rw [e1, List.append_nil]; exact hi⟩
    | cons a r ih =>
      intro done env e1 hi
      obtain ⟨env1, h1, h2⟩ := hs done a r e1 env hi
      rw [List.map_cons, forL_cons, h1, liftO_some, pure_bind']
      refine Pu.bindB h2 fun q hq => ?_
      obtain ⟨fl, e2⟩ := q
      obtain ⟨rfl, hq⟩ := hq
      exact ih (done ++ [a]) e2 (by rw [e1]; simp) hq
  refine Pu.bindB (key l [] env rfl hi) fun q hq => ?_
  obtain ⟨fl, e2⟩ := q
  obtain ⟨rfl, hq⟩ := hq
  exact hk e2 hq
theorem Pu.forI {tg : Tg} {b : Env → M (Fl × Env)} {h : α → D} {k : Fl × Env → M β} (l : List α) (I : Env → Prop) {env : Env} (hi : I env)
    (hs : ∀ a ∈ l, ∀ env, I env → ∃ env1, asgT tg (h a) env = some env1 ∧ Pu (b env1) (fun r => r.1 = .nx ∧ I r.2))
    (hk : ∀ env, I env → Pu (k (.nx, env)) Q) : Pu (TK.forL tg b (l.map h) env >>= k) Q :=
  Pu.forB l (fun _ env => I env) hi (fun done a rest el env hi => hs a (by rw [el]; simp) env hi) hk
theorem Pu.compMB {F : D → M (Option D)} {h : α → D} {l : List α} {k : List D → M β} (g : α → D) (hF : ∀ a ∈ l, F (h a) = Pure.pure (some (g a))) (hk : Pu (k (l.map g)) Q) : Pu (TK.noX (compL F (l.map h)) >>= k) Q := by
  rw [comp_map g hF]; exact hk
end
end TK
namespace TK.P
open PySem TK L2
section
variable {α : Type} [DecidableEq α] {f : α → D} {k : Nat}
class Srt {α : Type} (f : α → D) : Prop where
  alk : ∀ a b, PySem.W.alike (f a) (f b) = true
def leE (f : α → D) (a b : α) : Bool := !PySem.W.dataLt (f b) (f a)
def sortE (f : α → D) (l : List α) : List α := l.mergeSort (leE f)
theorem sortE_mem {l : List α} {a : α} : a ∈ sortE f l ↔ a ∈ l := (List.mergeSort_perm l _).mem_iff
end
abbrev Bar := Pos × Pos
def barD (x : Bar) : D := .tuple [posD x.1, posD x.2]
instance : Enc barD 2 := ⟨fun a b => by
  obtain ⟨a1, a2⟩ := a
  obtain ⟨b1, b2⟩ := b
  unfold barD
  rw [PyData.eqv]
  simp only [PyData.eqvAll]
  rw [Enc.eq (f := posD), Enc.eq (f := posD)]
  simp [Prod.ext_iff], fun a => rfl⟩
instance : Srt posD := ⟨fun a b => by simp [posD, bD, PySem.W.alike, PySem.W.alikeAll]⟩
instance : Srt barD := ⟨fun a b => by simp [barD, posD, bD, PySem.W.alike, PySem.W.alikeAll]⟩
@[simp high] theorem eqD_bars (l m : List Bar) : eqD (.list (l.map barD)) (.list (m.map barD)) = some (decide (l = m)) := eqD_enc (fun l : List Bar => PyData.list (l.map barD)) (by decide) l m
@[simp high] theorem eqD_poss (l m : List Pos) : eqD (.list (l.map posD)) (.list (m.map posD)) = some (decide (l = m)) := eqD_enc (fun l : List Pos => PyData.list (l.map posD)) (by decide) l m
section
variable {n : Nat} {p : List Lock} {d : D}
abbrev Spot := Nat × Bool
def spotD (x : Spot) : D := .tuple [.int x.1, bD x.2]
@[simp] theorem ix_spot0 (x : Spot) : app2 .ix (spotD x) (.int 0) = some (.int x.1) := rfl
@[simp] theorem ix_spot1 (x : Spot) : app2 .ix (spotD x) (.int 1) = some (bD x.2) := rfl
def lk (p : List Lock) (i : Nat) : Lock := p.getD i ("", [], [])
theorem lk_lt {i : Nat} (h : i < p.length) : lk p i = p[i] := by simp [lk, List.getD, h]
/-- do the keys of two positions meet -/
def meetB (a b : List Str) : Bool := a.any fun k => decide (k ∈ b)
def barB (p : List Lock) (x y : Spot) : Bool := meetB (held (lk p x.1) x.2) (held (lk p y.1) y.2)
def spots (n : Nat) : List Spot := (List.range n).flatMap fun i => [(i, false), (i, true)]
theorem mem_spots {n : Nat} {x : Spot} : x ∈ spots n ↔ x.1 < n := by
  obtain ⟨i, b⟩ := x
  simp only [spots, List.mem_flatMap, List.mem_range, List.mem_cons, Prod.mk.injEq, List.not_mem_nil, or_false]
  constructor
  · rintro ⟨j, hj, ⟨rfl, _⟩ | ⟨rfl, _⟩⟩ <;> exact hj
  · intro h
    cases b
    · exact ⟨i, h, .inl ⟨rfl, rfl⟩⟩
    · exact ⟨i, h, .inr ⟨rfl, rfl⟩⟩
def pairOf (p : List Lock) (x y : Spot) : Bar := (((lk p x.1).1, x.2), ((lk p y.1).1, y.2))
def barRow (p : List Lock) (x : Spot) (ys : List Spot) : List Bar := ys.flatMap fun y => if decide (x.1 < y.1) && barB p x y then [pairOf p x y] else []
def barRows (p : List Lock) (xs : List Spot) : List Bar := xs.flatMap fun x => barRow p x (spots p.length)
def barsOf (p : List Lock) : List Bar := sortE barD (barRows p (spots p.length))
end
end TK.P
namespace TK.P
open PySem TK L2
@[simp high] theorem walk_zip_mapLT {α β : Type} (f : α → D) (g : β → D) (l : List α) (m : List β) : walkL .zip2 [.list (l.map f), .tuple (m.map g)] = some ((l.zip m).map fun x => .tuple [f x.1, g x.2]) := by
  show some (((l.map f).zip (m.map g)).map fun p => PyData.tuple [p.1, p.2]) = _
  rw [List.zip_map, List.map_map]
  rfl
section
variable {n : Nat} {p : List Lock} {d e : D}
def noKey (k : Str) (ks : List Str) : List Str := ks.filter fun x => !decide (x = k)
def dropL (k : Str) (l : Lock) : Lock := (l.1, noKey k l.2.1, noKey k l.2.2)
def dropP (k : Str) (p : List Lock) : List Lock := p.map (dropL k)
@[simp high] theorem asg_lock (ts : List Tg) (l : Lock) (e : Env) : asgT (.t ts) (lockD l) e = asgTs ts [.str l.1, .tuple (l.2.1.map .str), .tuple (l.2.2.map .str)] e := rfl
theorem plain_lock (l : Lock) (n : Nat) : plain (n + 2) (lockD l) = true := by
  simp [plain, lockD]
theorem plain_plant (p : List Lock) (n : Nat) : plain (n + 3) (plantD p) = true := by
  simp only [plain, plantD, List.all_eq_true, List.mem_map]
  rintro x ⟨l, _, rfl⟩
  exact plain_lock l n
theorem same_plant (p : List Lock) : f__law_same deep [plantD p, plantD p] = pure (.bool true) := same_refl 3 deep _ (by decide) (plain_plant p 0)
end
end TK.P
namespace TK.P
open PySem TK L2
def natD (i : Nat) : D := .int (i : Int)
instance : Enc natD 0 := ⟨fun a b => by
  unfold natD
  rw [PyData.eqv]
  show decide ((a : Int) = (b : Int)) = decide (a = b)
  rw [Bool.eq_iff_iff]; simp; omega, fun _ => rfl⟩
def natsD (l : List Nat) : D := .list (l.map natD)
section
variable {n : Nat} {p : List Lock} {d e w : D} {r g : List Bool}
def diffL (r g : List Bool) : List Nat := (List.range (min r.length g.length)).filter fun i => !decide (r.getD i false = g.getD i false)
theorem diff_nodup (r g : List Bool) : (diffL r g).Nodup := List.Nodup.sublist List.filter_sublist List.nodup_range
theorem diff_len (r g : List Bool) : (diffL r g).length ≤ r.length := by
  have := List.length_filter_le (fun i => !decide (r.getD i false = g.getD i false)) (List.range (min r.length g.length))
  rw [List.length_range] at this
  unfold diffL
  omega
end
end TK.P
namespace TK
open PySem L2
@[simp] theorem ex_while {Γ : List FnSem} {env : Env} (c : TK.E) (b : List S) : ex Γ (.while c b) env = whL (tst Γ c) (exs Γ b) fuel env := rfl
end TK
namespace TK.P
open PySem TK L2
section
variable {n : Nat} {p : List Lock} {d e w : D} {r g : List Bool} {nd : List (Nat × List Nat)}
def optNats : Option (List Nat) → D
  | none => .none
  | some l => natsD l
end
end TK.P
namespace TK
open PySem L2
/-- fold with a step that may fail -/
def goL {σ α : Type} (step : σ → α → Option σ) : σ → List α → Option σ
  | s, [] => some s
  | s, a :: l => (step s a).bind fun s' => goL step s' l
end TK
namespace TK.P
open PySem TK L2
section
variable {n : Nat} {p : List Lock} {d e w : D} {r g : List Bool}
def optNames (p : List Lock) : Option (List Nat) → D
  | none => .none
  | some l => .list ((l.map fun i => (lk p i).1).map .str)
def idxN (p : List Lock) (s : Str) : Nat := (namesOf p).idxOf s
theorem idxN_lt {s : Str} (h : s ∈ namesOf p) : idxN p s < p.length := by
  have := List.idxOf_lt_length_of_mem h
  simpa [idxN, namesOf] using this
theorem idxN_get {s : Str} (h : s ∈ namesOf p) : (p[idxN p s]'(idxN_lt h)).1 = s := by
  have h1 : (namesOf p)[(namesOf p).idxOf s]'(List.idxOf_lt_length_of_mem h) = s := List.getElem_idxOf _
  exact (List.getElem_map (fun x : Lock => x.1)).symm.trans h1
end
end TK.P
namespace TK
open PySem L2
section
variable {Γ : List FnSem} {env : Env}
def nxM (e : Env) : M (Fl × Env) := pure (.nx, e)
theorem nxM_cons (s : Slot) (e : Env) : nxM (s :: e) = pure (.nx, s :: e) := rfl
def asgK (o : Bool) (i : Nat) (e1 : Env) (d : D) : M (Fl × Env) := if ownB o d then (setS e1 i (if o then .own d else .val d) >>= nxM) else fail
theorem asgK_def (o : Bool) (i : Nat) (e1 : Env) (d : D) : asgK o i e1 d = if ownB o d then (setS e1 i (if o then .own d else .val d) >>= nxM) else fail := rfl
theorem ex_asgK (o : Bool) (i : Nat) (e : TK.E) : ex Γ (.asg o i e) env = (ev Γ (frz env (esc e)) e >>= asgK o i (frz env (esc e))) := rfl
def iteK (Γ : List FnSem) (a b : List S) (env : Env) : Bool → M (Fl × Env)
  | true => exs Γ a env
  | false => exs Γ b env
theorem iteK_t (a b : List S) : iteK Γ a b env true = exs Γ a env := rfl
theorem iteK_f (a b : List S) : iteK Γ a b env false = exs Γ b env := rfl
theorem ex_iteK (c : TK.E) (a b : List S) : ex Γ (.ite c a b) env = (tst Γ c env >>= iteK Γ a b env) := by
  show (tst Γ c env >>= _) = _
  congr 1
  funext k
  cases k <;> rfl
def unpK (tg : Tg) (e1 : Env) (d : D) : M (Fl × Env) := liftO (asgT tg d e1) >>= nxM
theorem unpK_def (tg : Tg) (e1 : Env) (d : D) : unpK tg e1 d = (liftO (asgT tg d e1) >>= nxM) := rfl
theorem ex_unpK (tg : Tg) (e : TK.E) : ex Γ (.unp tg e) env = (ev Γ (frz env (esc e)) e >>= unpK tg (frz env (esc e))) := rfl
def parK (is : List (Nat × Bool)) (e1 : Env) (ds : List D) : M (Fl × Env) := setAll is ds e1 >>= nxM
theorem parK_cons (is : List (Nat × Bool)) (e1 : Env) (d : D) (ds : List D) : parK is e1 (d :: ds) = (setAll is (d :: ds) e1 >>= nxM) := rfl
theorem ex_parK (is : List (Nat × Bool)) (es : List TK.E) : ex Γ (.par is es) env = (evsP Γ (frz env (escs es)) (is.map (·.2)) es >>= parK is (frz env (escs es))) := rfl
def forJ (Γ : List FnSem) (tg : Tg) (b : List S) (e1 : Env) (items : List D) : M (Fl × Env) := forL tg (exs Γ b) items e1
theorem forJ_def (tg : Tg) (b : List S) (e1 : Env) (items : List D) : forJ Γ tg b e1 items = forL tg (exs Γ b) items e1 := rfl
def forK (Γ : List FnSem) (tg : Tg) (k : IK) (b : List S) (e1 : Env) (ds : List D) : M (Fl × Env) := liftO (walkL k ds) >>= forJ Γ tg b e1
theorem forK_def (tg : Tg) (k : IK) (b : List S) (e1 : Env) (d : D) (ds : List D) : forK Γ tg k b e1 (d :: ds) = (liftO (walkL k (d :: ds)) >>= forJ Γ tg b e1) := rfl
theorem ex_forK (tg : Tg) (k : IK) (src : List TK.E) (b : List S) : ex Γ (.for tg k src b) env = (evs Γ (frz env (escs src)) src >>= forK Γ tg k b (frz env (escs src))) := rfl
end
@[simp] theorem notNone_l (l : List D) : notNone (.list l) = true := rfl
@[simp] theorem notNone_t (l : List D) : notNone (.tuple l) = true := rfl
@[simp] theorem notNone_s (s : Str) : notNone (.str s) = true := rfl
@[simp] theorem notNone_i (i : Int) : notNone (.int i) = true := rfl
@[simp] theorem notNone_b (b : Bool) : notNone (.bool b) = true := rfl
@[simp] theorem notNone_n : notNone .none = false := rfl
@[simp] theorem app1_neg (i : Int) : app1 .neg (.int i) = some (.int (-i)) := rfl
namespace P
@[simp] theorem walk_plant (p : List Lock) : walkL .plain [plantD p] = some (p.map lockD) := rfl
@[simp] theorem len_plant (p : List Lock) : app1 .len (plantD p) = some (.int p.length) := by simp [plantD]
@[simp] theorem len_row (r : List Bool) : app1 .len (rowD r) = some (.int r.length) := by simp [rowD]
@[simp] theorem walk_row (r : List Bool) : walkL .plain [rowD r] = some (r.map bD) := rfl
end P
end TK
namespace TK.P
open PySem TK L2
section
variable {p : List Lock} {r g q : List Bool} {i j : Nat}
theorem meet_symm (a b : List Str) : meetB a b = meetB b a := by
  rw [Bool.eq_iff_iff]
  simp only [meetB, List.any_eq_true, decide_eq_true_eq]
  exact ⟨fun ⟨k, h1, h2⟩ => ⟨k, h2, h1⟩, fun ⟨k, h1, h2⟩ => ⟨k, h2, h1⟩⟩
theorem bar_symm (p : List Lock) (x y : Spot) : barB p x y = barB p y x := meet_symm _ _
def KeysN (p : List Lock) : Prop := ∀ l ∈ p, l.2.1.Nodup ∧ l.2.2.Nodup
theorem meet_false {a b : List Str} : meetB a b = false ↔ ∀ x ∈ a, ∀ y ∈ b, x ≠ y := by
  rw [← Bool.not_eq_true]
  simp only [meetB, List.any_eq_true, decide_eq_true_eq, not_exists, not_and]
  exact ⟨fun h x hx y hy e => h x hx (e ▸ hy), fun h k hk hb => h k hk k hb rfl⟩
theorem fits_iff (hn : KeysN p) (hl : r.length = p.length) : fitsB p r = true ↔ ∀ i j, i < p.length → j < p.length → i ≠ j → barB p (i, r.getD i false) (j, r.getD j false) = false := by
  have key : fitsB p r = true ↔ ∀ i j, i < p.length → j < p.length → i < j → barB p (i, r.getD i false) (j, r.getD j false) = false := by
    unfold fitsB heldAll heldL
    rw [decide_eq_true_eq]
    unfold List.Nodup
    rw [List.pairwise_flatten, List.pairwise_iff_getElem]
    constructor
    · rintro ⟨_, h⟩ i j hi hj hij
      have := h i j (by simp; omega) (by simp; omega) hij
      rw [show barB p (i, r.getD i false) (j, r.getD j false) = meetB (held (lk p i) (r.getD i false)) (held (lk p j) (r.getD j false)) from rfl, meet_false]
      simpa [lk_lt hi, lk_lt hj, List.getD, show i < r.length by omega, show j < r.length by omega] using this
    · intro h
      refine ⟨fun l hl' => ?_, fun i j hi hj hij => ?_⟩
      · obtain ⟨x, hx, rfl⟩ := List.mem_map.mp hl'
        have := hn x.1 (List.of_mem_zip hx).1
        unfold held
        split
        · exact this.2
        · exact this.1
      · simp at hi hj
        have := h i j (by omega) (by omega) hij
        rw [show barB p (i, r.getD i false) (j, r.getD j false) = meetB (held (lk p i) (r.getD i false)) (held (lk p j) (r.getD j false)) from rfl, meet_false] at this
        simpa [lk_lt (show i < p.length by omega), lk_lt (show j < p.length by omega), List.getD, show i < r.length by omega, show j < r.length by omega] using this
  rw [key]
  constructor
  · intro h i j hi hj hij
    rcases Nat.lt_or_gt_of_ne hij with h1 | h1
    · exact h i j hi hj h1
    · rw [bar_symm]; exact h j i hj hi h1
  · exact fun h i j hi hj hij => h i j hi hj (by omega)
theorem flip_at (r : List Bool) (i k : Nat) (hi : i < r.length) : (flipB r i).getD k false = if k = i then !r.getD i false else r.getD k false := by
  unfold flipB
  simp only [List.getD_eq_getElem?_getD, List.getElem?_set]
  by_cases h : k = i
  · subst h; simp [hi]
  · rw [if_neg h, if_neg (fun e => h e.symm)]
theorem row_ext {r q : List Bool} (hl : r.length = q.length) (h : ∀ k, k < r.length → r.getD k false = q.getD k false) : r = q := by
  apply List.ext_getElem hl
  intro k h1 h2
  have := h k h1
  simpa [List.getD, h1, h2] using this
def stepI (p : List Lock) (q : List Bool) (i : Nat) : Option (List Bool) := if fitsB p (flipB q i) = true then some (flipB q i) else none
def Walk (p : List Lock) (r : List Bool) (l : List Nat) (g : List Bool) : Prop := (∀ i ∈ l, i < p.length) ∧ goL (stepI p) r l = some g
def Conn (p : List Lock) (r g : List Bool) : Prop := ∃ l, Walk p r l g
/-- locks that hold each other -/
def HeldS (p : List Lock) (r : List Bool) (S : List Nat) : Prop := ∀ i ∈ S, i < p.length ∧ ∃ j ∈ S, j ≠ i ∧ barB p (i, !r.getD i false) (j, r.getD j false) = true
theorem held_stay (hn : KeysN p) {S : List Nat} (hS : HeldS p r S) : ∀ (l : List Nat) (q q' : List Bool), q.length = p.length → (∀ i ∈ S, q.getD i false = r.getD i false) → (∀ i ∈ l, i < p.length) → goL (stepI p) q l = some q' → ∀ i ∈ S, q'.getD i false = r.getD i false
  | [], q, q', _, h, _, e => by cases e; exact h
  | k :: l, q, q', hl, h, hk, e => by
    have hkp := hk k List.mem_cons_self
    have e' : (stepI p q k).bind (fun s' => goL (stepI p) s' l) = some q' := e
    unfold stepI at e'
    split at e'
    case isFalse => cases e'
    case isTrue hf =>
      have hkS : k ∉ S := fun hm => by
        obtain ⟨_, j, hj, hne, hb⟩ := hS k hm
        have := (fits_iff hn (by simpa using hl)).mp hf k j hkp (hS j hj).1 (fun e => hne e.symm)
        rw [flip_at _ _ _ (by omega), flip_at _ _ _ (by omega), if_pos rfl, if_neg hne, h k hm, h j hj, hb] at this
        cases this
      refine held_stay hn hS l (flipB q k) q' (by simpa using hl) (fun i hi => ?_) (fun i hi => hk i (List.mem_cons_of_mem _ hi)) e'
      rw [flip_at _ _ _ (by omega), if_neg (fun (e : i = k) => hkS (e ▸ hi))]
      exact h i hi
theorem Conn.stay (hn : KeysN p) (hl : r.length = p.length) {S : List Nat} (hS : HeldS p r S) (h : Conn p r g) : ∀ i ∈ S, g.getD i false = r.getD i false := by
  obtain ⟨l, h1, h2⟩ := h
  exact held_stay hn hS l r g hl (fun _ _ => rfl) h1 h2
theorem mem_diff : i ∈ diffL r g ↔ i < r.length ∧ i < g.length ∧ r.getD i false ≠ g.getD i false := by
  unfold diffL
  simp only [List.mem_filter, List.mem_range, Bool.not_eq_true', decide_eq_false_iff_not, Nat.lt_min, and_assoc, ne_eq]
section order
variable {w : Nat → List Nat} {Ds : List Nat}
theorem nodup_sub_len {l m : List Nat} (hl : l.Nodup) (h : ∀ x ∈ l, x ∈ m) : l.length ≤ m.length := by
  induction l generalizing m with
  | nil => simp
  | cons a l ih =>
    have ha := h a List.mem_cons_self
    have hn := List.nodup_cons.mp hl
    have := ih (m := m.erase a) hn.2 fun x hx => (List.mem_erase_of_ne (fun (e : x = a) => hn.1 (e ▸ hx))).mpr (h x (List.mem_cons_of_mem _ hx))
    rw [List.length_erase_of_mem ha] at this
    have : 0 < m.length := List.length_pos_of_mem ha
    simp only [List.length_cons]; omega
end order
def mixB (r g : List Bool) (a : List Nat) : List Bool := (List.range r.length).map fun k => if k ∈ a then g.getD k false else r.getD k false
@[simp] theorem mixB_len (r g : List Bool) (a : List Nat) : (mixB r g a).length = r.length := by simp [mixB]
end
end TK.P
namespace TK.P
open PySem TK L2
section
variable {p : List Lock} {r g q m : List Bool} {i j : Nat}
theorem goL_app {σ α : Type} {step : σ → α → Option σ} : ∀ (l m : List α) (s : σ), goL step s (l ++ m) = (goL step s l).bind fun s' => goL step s' m
  | [], m, s => rfl
  | a :: l, m, s => by
    show (step s a).bind (fun s' => goL step s' (l ++ m)) = ((step s a).bind fun s' => goL step s' l).bind _
    cases step s a with
    | none => rfl
    | some s' => exact goL_app l m s'
theorem flip2 (r : List Bool) {i : Nat} (h : i < r.length) : flipB (flipB r i) i = r := row_ext (by simp) fun k hk => by
  rw [flip_at _ _ _ (by simpa using h), flip_at _ _ _ h, flip_at _ _ _ h]
  split
  · next e => subst e; simp
  · rfl
/-- a state, in plain words -/
structure IsS (p : List Lock) (r : List Bool) : Prop where
  len : r.length = p.length
  fits : fitsB p r = true
theorem step_back (hr : IsS p r) (hi : i < p.length) (h : stepI p r i = some q) : IsS p q ∧ stepI p q i = some r := by
  unfold stepI at h
  split at h
  · cases h
    next hf =>
    have hl := hr.len
    refine ⟨⟨by simpa using hl, hf⟩, ?_⟩
    unfold stepI
    rw [flip2 r (by omega), if_pos hr.fits]
  · cases h
theorem walk_back : ∀ (l : List Nat) (r q : List Bool), IsS p r → (∀ i ∈ l, i < p.length) → goL (stepI p) r l = some q → IsS p q ∧ goL (stepI p) q l.reverse = some r
  | [], r, q, hr, _, h => by cases h; exact ⟨hr, rfl⟩
  | i :: l, r, q, hr, hi, h => by
    have h' : (stepI p r i).bind (fun s' => goL (stepI p) s' l) = some q := h
    cases hs : stepI p r i with
    | none => rw [hs] at h'; cases h'
    | some r' =>
      rw [hs] at h'
      obtain ⟨h1, h2⟩ := step_back hr (hi i List.mem_cons_self) hs
      obtain ⟨h3, h4⟩ := walk_back l r' q h1 (fun k hk => hi k (List.mem_cons_of_mem _ hk)) h'
      refine ⟨h3, ?_⟩
      rw [List.reverse_cons, goL_app, h4]
      show (stepI p r' i).bind _ = _
      rw [h2]; rfl
theorem Conn.isS (hr : IsS p r) (h : Conn p r g) : IsS p g := by
  obtain ⟨l, h1, h2⟩ := h
  exact (walk_back l r g hr h1 h2).1
theorem Conn.refl (p : List Lock) (r : List Bool) : Conn p r r := ⟨[], by simp, rfl⟩
theorem Conn.symm (hr : IsS p r) (h : Conn p r g) : Conn p g r := by
  obtain ⟨l, h1, h2⟩ := h
  exact ⟨l.reverse, fun i hi => h1 i (List.mem_reverse.mp hi), (walk_back l r g hr h1 h2).2⟩
theorem Conn.trans (h1 : Conn p r q) (h2 : Conn p q g) : Conn p r g := by
  obtain ⟨l, a, b⟩ := h1
  obtain ⟨l', a', b'⟩ := h2
  refine ⟨l ++ l', fun i hi => (List.mem_append.mp hi).elim (a i) (a' i), ?_⟩
  rw [goL_app, b]
  exact b'
theorem Walk.rev (hr : IsS p r) {l : List Nat} (h : Walk p r l g) : Walk p g l.reverse r := ⟨fun i hi => h.1 i (List.mem_reverse.mp hi), (walk_back l r g hr h.1 h.2).2⟩
/-- locks that never turn -/
def Frz (p : List Lock) (r : List Bool) (i : Nat) : Prop := ∃ S, HeldS p r S ∧ i ∈ S
theorem Frz.lt (h : Frz p r i) : i < p.length := by
  obtain ⟨S, h1, h2⟩ := h
  exact (h1 i h2).1
theorem Conn.frz (hn : KeysN p) (hr : IsS p r) (h : Conn p r g) (hi : Frz p r i) : g.getD i false = r.getD i false := by
  obtain ⟨S, h1, h2⟩ := hi
  exact h.stay hn hr.len h1 i h2
def midB (a b c : Bool) : Bool := (a && b) || (b && c) || (a && c)
def midL (a b c : List Bool) : List Bool := (List.range a.length).map fun i => midB (a.getD i false) (b.getD i false) (c.getD i false)
@[simp] theorem midL_len (a b c : List Bool) : (midL a b c).length = a.length := by simp [midL]
end
end TK.P
namespace TK.P
open PySem TK L2
section
variable {w : Nat → List Nat} {Ds : List Nat} {c l row : List Nat} {i j k m n : Nat}
/-- a row of waits, the least first, none twice -/
structure RPath (w : Nat → List Nat) (Ds l : List Nat) : Prop where
  nodup : l.Nodup
  ne : l ≠ []
  sub : ∀ x ∈ l, x ∈ Ds
  link : ∀ k, k + 1 < l.length → l.getD (k + 1) 0 ∈ w (l.getD k 0)
  least : ∀ k, 0 < k → k < l.length → l.getD 0 0 < l.getD k 0
theorem RPath.len (h : RPath w Ds l) : l.length ≤ Ds.length := nodup_sub_len h.nodup h.sub
def iter (f : Nat → Nat) (x : Nat) : Nat → Nat
  | 0 => x
  | n + 1 => f (iter f x n)
end
end TK.P
namespace TK.P
open PySem TK L2
section
variable {n : Nat} {p : List Lock} {d e w : D} {r g : List Bool}
theorem OkP.keysN (hp : OkP p) : KeysN p := fun l hl => by
  have h := (okP_iff.mp hp).2.1 l hl
  exact ⟨asc_nodup (okKeys_iff.mp h.2.1).2.2, asc_nodup (okKeys_iff.mp h.2.2).2.2⟩
theorem mem_states : r ∈ statesOf p ↔ IsS p r := by
  unfold statesOf
  rw [List.mem_filter, vecs_mem]
  exact ⟨fun h => ⟨h.1, h.2⟩, fun h => ⟨h.1, h.2⟩⟩
theorem isS_iff : isSt p (rowD r) = true ↔ IsS p r := by
  rw [isSt_row, Bool.and_eq_true, decide_eq_true_eq]
  exact ⟨fun h => ⟨h.1, h.2⟩, fun h => ⟨h.1, h.2⟩⟩
theorem IsS.st (h : IsS p r) : isSt p (rowD r) = true := isS_iff.mpr h
@[simp] theorem notNone_nats (o : Option (List Nat)) : notNone (optNats o) = o.isSome := by cases o <;> rfl
@[simp] theorem notNone_names (p : List Lock) (o : Option (List Nat)) : notNone (optNames p o) = o.isSome := by cases o <;> rfl
abbrev rowsD (l : List (List Bool)) : D := .list (l.map rowD)
abbrev Pair := Str × Str
def pairD (x : Pair) : D := .tuple [.str x.1, .str x.2]
instance : Enc pairD 1 := ⟨fun a b => by
  obtain ⟨a1, a2⟩ := a
  obtain ⟨b1, b2⟩ := b
  unfold pairD
  rw [PyData.eqv]
  simp only [PyData.eqvAll]
  rw [Enc.eq (f := PyData.str), Enc.eq (f := PyData.str)]
  simp [Prod.ext_iff], fun a => rfl⟩
instance : Srt pairD := ⟨fun a b => by simp [pairD, PySem.W.alike, PySem.W.alikeAll]⟩
end
end TK.P
namespace TK.P
open PySem TK L2
section
variable {n : Nat} {p : List Lock} {d e : D} {r g : List Bool} {w : Nat → List Nat} {Ds : List Nat} {w' : D}
instance : Enc natsD 1 := ⟨fun a b => by unfold natsD; rw [PyData.eqv, eqvAll_map], fun a => dep_map a⟩
theorem alike_all {α : Type} {f : α → D} (hf : ∀ a b, PySem.W.alike (f a) (f b) = true) : ∀ (l m : List α), PySem.W.alikeAll (l.map f) (m.map f) = true
  | [], m => by simp [PySem.W.alikeAll]
  | a :: l, [] => by simp [PySem.W.alikeAll]
  | a :: l, b :: m => by
    rw [List.map_cons, List.map_cons, PySem.W.alikeAll, hf a b, alike_all hf l m]; rfl
instance {α : Type} {f : α → D} [Srt f] : Srt (fun l : List α => PyData.list (l.map f)) := ⟨fun a b => by rw [PySem.W.alike]; exact alike_all Srt.alk a b⟩
instance {α : Type} {f : α → D} [Srt f] : Srt (fun l : List α => PyData.tuple (l.map f)) := ⟨fun a b => by rw [PySem.W.alike]; exact alike_all Srt.alk a b⟩
instance : Srt natD := ⟨fun a b => rfl⟩
instance : Srt natsD := ⟨fun a b => by unfold natsD; rw [PySem.W.alike]; exact alike_all Srt.alk a b⟩
instance : Srt bD := ⟨fun a b => rfl⟩
instance : Srt rowD := ⟨fun a b => by unfold rowD; rw [PySem.W.alike]; exact alike_all Srt.alk a b⟩
instance : Srt PyData.str := ⟨fun a b => rfl⟩
end
end TK.P
namespace TK.P
open PySem TK L2
end TK.P
namespace TK
open PySem L2
namespace P
end P
end TK
namespace TK.P
open PySem TK L2
section
variable {n : Nat} {p : List Lock} {d e w : D} {r g q : List Bool} {i : Nat}
/-- less, at the first place that differs -/
def RowLt (a b : List Bool) : Prop := ∃ c s t, a = c ++ false :: s ∧ b = c ++ true :: t
theorem RowLt.ne {a b : List Bool} (h : RowLt a b) : a ≠ b := by
  obtain ⟨c, s, t, rfl, rfl⟩ := h
  simp
theorem name_inj (hd : (namesOf p).Nodup) {i j : Nat} (hi : i < p.length) (hj : j < p.length) (h : (lk p i).1 = (lk p j).1) : i = j := by
  rw [lk_lt hi, lk_lt hj] at h
  have e1 : (namesOf p)[i]'(by simpa [namesOf] using hi) = p[i].1 := List.getElem_map _
  have e2 : (namesOf p)[j]'(by simpa [namesOf] using hj) = p[j].1 := List.getElem_map _
  exact (List.getElem_inj hd).mp (by rw [e1, e2, h])
end
end TK.P
namespace TK.P
open PySem TK L2
end TK.P
namespace TK.P
open PySem TK L2
section
variable {n : Nat} {p p' : List Lock} {d e w : D} {r g q : List Bool} {i : Nat} {k : Str} {ks : List Str}
structure Less (p' p : List Lock) : Prop where
  len : p'.length = p.length
  names : namesOf p' = namesOf p
  bars : ∀ x y : Spot, barB p' x y = true → barB p x y = true
theorem Less.isS (h : Less p' p) (hn' : KeysN p') (hn : KeysN p) (hr : IsS p r) : IsS p' r := by
  have hl := h.len
  have hrl := hr.len
  refine ⟨by omega, (fits_iff hn' (by omega)).mpr fun i j hi hj hij => ?_⟩
  cases hb : barB p' (i, r.getD i false) (j, r.getD j false) with
  | false => rfl
  | true =>
    have := (fits_iff hn hr.len).mp hr.fits i j (by omega) (by omega) hij
    rw [h.bars _ _ hb] at this; cases this
theorem Less.step (h : Less p' p) (hn' : KeysN p') (hn : KeysN p) (hr : IsS p r) (hs : stepI p r i = some q) (hi : i < p.length) : stepI p' r i = some q := by
  have hq := (step_back hr hi hs).1
  unfold stepI at hs ⊢
  split at hs
  · cases hs
    rw [if_pos (h.isS hn' hn hq).fits]
  · cases hs
theorem Less.go (h : Less p' p) (hn' : KeysN p') (hn : KeysN p) : ∀ (l : List Nat) (r q : List Bool), IsS p r → (∀ i ∈ l, i < p.length) → goL (stepI p) r l = some q → goL (stepI p') r l = some q
  | [], r, q, _, _, e => e
  | i :: l, r, q, hr, hl, e => by
    have e' : (stepI p r i).bind (fun s' => goL (stepI p) s' l) = some q := e
    cases hs : stepI p r i with
    | none => rw [hs] at e'; cases e'
    | some r' =>
      rw [hs] at e'
      have hi := hl i List.mem_cons_self
      show (stepI p' r i).bind _ = _
      rw [h.step hn' hn hr hs hi]
      exact Less.go h hn' hn l r' q (step_back hr hi hs).1 (fun k hk => hl k (List.mem_cons_of_mem _ hk)) e'
theorem noKey_sub (k : Str) (ks : List Str) : (noKey k ks).Sublist ks := List.filter_sublist
theorem meet_iff {a b : List Str} : meetB a b = true ↔ ∃ x, x ∈ a ∧ x ∈ b := by simp [meetB]
theorem mem_allKL {x : Str} : x ∈ allKL p ↔ ∃ l ∈ p, x ∈ l.2.1 ∨ x ∈ l.2.2 := by
  unfold allKL
  rw [List.mem_flatten]
  constructor
  · rintro ⟨ks, h1, h2⟩
    obtain ⟨l, hl, rfl⟩ := List.mem_map.mp h1
    exact ⟨l, hl, List.mem_append.mp h2⟩
  · rintro ⟨l, hl, h⟩
    exact ⟨_, List.mem_map.mpr ⟨l, hl, rfl⟩, List.mem_append.mpr h⟩
def insKey (k : Str) (ks : List Str) : List Str := sortS (ks ++ [k])
def addL (k : Str) (b : Bool) (l : Lock) : Lock := if b then (l.1, l.2.1, insKey k l.2.2) else (l.1, insKey k l.2.1, l.2.2)
theorem addL_name (b : Bool) (l : Lock) : (addL k b l).1 = l.1 := by cases b <;> rfl
theorem mem_ins {x : Str} : x ∈ insKey k ks ↔ x ∈ ks ∨ x = k := by
  unfold insKey
  rw [(sortS_perm _).mem_iff]; simp
theorem ins_len : (insKey k ks).length = ks.length + 1 := by
  unfold insKey
  rw [(sortS_perm _).length_eq]; simp
theorem ins_ok (h : okKeys ks = true) (hk : isWordS k = true) (hn : k ∉ ks) (hl : ks.length ≠ 6) : okKeys (insKey k ks) = true := by
  obtain ⟨h1, h2, h3⟩ := okKeys_iff.mp h
  refine okKeys_iff.mpr ⟨by rw [ins_len]; omega, fun x hx => ?_, asc_sortS ?_⟩
  · rcases mem_ins.mp hx with hx | rfl
    · exact h2 x hx
    · exact hk
  · rw [List.nodup_append]
    exact ⟨asc_nodup h3, by simp, fun a ha b hb e => hn (by rw [List.mem_singleton.mp hb] at e; exact e ▸ ha)⟩
theorem held_add (b c : Bool) (l : Lock) : held (addL k b l) c = if c = b then insKey k (held l c) else held l c := by
  cases b <;> cases c <;> rfl
theorem noKey_ins (h : ascS ks = true) (hn : k ∉ ks) : noKey k (insKey k ks) = ks := by
  have p1 : (noKey k (insKey k ks)).Perm (noKey k (ks ++ [k])) := (sortS_perm (ks ++ [k])).filter _
  have e1 : noKey k (ks ++ [k]) = ks := by
    unfold noKey
    rw [List.filter_append]
    have : ks.filter (fun x => !decide (x = k)) = ks := by
      rw [List.filter_eq_self]
      intro x hx
      simp; exact fun e => hn (e ▸ hx)
    rw [this]; simp
  rw [e1] at p1
  have s1 : (noKey k (insKey k ks)).Pairwise fun a b => strLE a b = true := (sortS_sorted (ks ++ [k])).sublist (noKey_sub _ _)
  rw [sortS_unique s1 p1]
  exact (sortS_unique ((asc_pair h).imp fun h => ltS_le h) (List.Perm.refl _)).symm
end
end TK.P
namespace TK.P
open PySem TK L2
section
variable {n : Nat} {p p' : List Lock} {d e w : D} {r g q : List Bool} {i : Nat} {k : Str} {ks : List Str} {x y : Pos}
def keyL (k : Str) (x y : Pos) (l : Lock) : Lock := if l.1 = x.1 then addL k x.2 l else if l.1 = y.1 then addL k y.2 l else l
def keyP (k : Str) (x y : Pos) (p : List Lock) : List Lock := p.map (keyL k x y)
/-- there is room for the key -/
def roomL (x y : Pos) (l : Lock) : Bool := if l.1 = x.1 then decide ((held l x.2).length ≠ 6) else if l.1 = y.1 then decide ((held l y.2).length ≠ 6) else true
theorem keyL_name (l : Lock) : (keyL k x y l).1 = l.1 := by
  unfold keyL
  split
  · exact addL_name _ _
  · split
    · exact addL_name _ _
    · rfl
theorem keyP_len : (keyP k x y p).length = p.length := by simp [keyP]
theorem keyP_names : namesOf (keyP k x y p) = namesOf p := by
  unfold namesOf keyP
  rw [List.map_map]
  exact List.map_congr_left fun l _ => keyL_name l
theorem lk_key (hi : i < p.length) : lk (keyP k x y p) i = keyL k x y (lk p i) := by
  unfold lk keyP
  simp [List.getD, hi]
/-- the two positions -/
def markB (p : List Lock) (x y : Pos) (s : Spot) : Bool := decide (s = (idxN p x.1, x.2)) || decide (s = (idxN p y.1, y.2))
structure KeyOk (p : List Lock) (k : Str) (x y : Pos) : Prop where
  ok : OkP p
  word : isWordS k = true
  new : k ∉ keysOf p
  fst : x.1 ∈ namesOf p
  snd : y.1 ∈ namesOf p
  ne : x.1 ≠ y.1
  room : ∀ l ∈ p, roomL x y l = true
theorem idx_eq (hd : (namesOf p).Nodup) {s : Str} (hs : s ∈ namesOf p) (hi : i < p.length) : (lk p i).1 = s ↔ i = idxN p s := by
  have h1 := idxN_get hs
  have h2 := idxN_lt hs
  constructor
  · intro h
    exact name_inj hd hi h2 (by rw [h, lk_lt h2, h1])
  · rintro rfl
    rw [lk_lt h2, h1]
theorem lk_mem (hi : i < p.length) : lk p i ∈ p := by rw [lk_lt hi]; exact List.getElem_mem hi
theorem KeyOk.notin (h : KeyOk p k x y) (hi : i < p.length) (b : Bool) : k ∉ held (lk p i) b := fun hk => h.new (by
  rw [mem_keysOf, mem_allKL]
  refine ⟨lk p i, lk_mem hi, ?_⟩
  cases b
  · exact .inl hk
  · exact .inr hk)
theorem KeyOk.held (h : KeyOk p k x y) (hi : i < p.length) (b : Bool) : P.held (lk (keyP k x y p) i) b = if markB p x y (i, b) = true then insKey k (P.held (lk p i) b) else P.held (lk p i) b := by
  have hd := h.ok.names
  have hLR : idxN p x.1 ≠ idxN p y.1 := fun e => h.ne (by rw [← idxN_get h.fst, ← idxN_get h.snd]; simp only [e])
  rw [lk_key hi]
  unfold keyL markB
  by_cases h1 : (lk p i).1 = x.1
  · have h1' := (idx_eq hd h.fst hi).mp h1
    rw [if_pos h1, held_add]
    by_cases hb : b = x.2
    · rw [if_pos hb, if_pos (by simp [h1', hb])]
    · rw [if_neg hb, if_neg (by simp [h1', hb, hLR])]
  · have h1' : i ≠ idxN p x.1 := fun e => h1 ((idx_eq hd h.fst hi).mpr e)
    rw [if_neg h1]
    by_cases h2 : (lk p i).1 = y.1
    · have h2' := (idx_eq hd h.snd hi).mp h2
      rw [if_pos h2, held_add]
      by_cases hb : b = y.2
      · rw [if_pos hb, if_pos (by simp [h2', hb])]
      · rw [if_neg hb, if_neg (by simp [h2', hb, Ne.symm hLR])]
    · have h2' : i ≠ idxN p y.1 := fun e => h2 ((idx_eq hd h.snd hi).mpr e)
      rw [if_neg h2, if_neg (by simp [h1', h2'])]
theorem KeyOk.bar (h : KeyOk p k x y) {a b : Spot} (ha : a.1 < p.length) (hb : b.1 < p.length) : barB (keyP k x y p) a b = (barB p a b || (markB p x y a && markB p x y b)) := by
  have ka := h.notin ha a.2
  have kb := h.notin hb b.2
  rw [Bool.eq_iff_iff]
  unfold barB
  rw [h.held ha, h.held hb]
  simp only [Bool.or_eq_true, Bool.and_eq_true, meet_iff]
  constructor
  · rintro ⟨z, h1, h2⟩
    by_cases ma : markB p x y (a.1, a.2) = true
    · rw [if_pos ma, mem_ins] at h1
      by_cases mb : markB p x y (b.1, b.2) = true
      · exact .inr ⟨ma, mb⟩
      · rw [if_neg mb] at h2
        rcases h1 with h1 | rfl
        · exact .inl ⟨z, h1, h2⟩
        · exact absurd h2 kb
    · rw [if_neg ma] at h1
      split at h2
      · rcases mem_ins.mp h2 with h2 | rfl
        · exact .inl ⟨z, h1, h2⟩
        · exact absurd h1 ka
      · exact .inl ⟨z, h1, h2⟩
  · rintro (⟨z, h1, h2⟩ | ⟨ma, mb⟩)
    · refine ⟨z, ?_, ?_⟩
      · split
        · exact mem_ins.mpr (.inl h1)
        · exact h1
      · split
        · exact mem_ins.mpr (.inl h2)
        · exact h2
    · have ma' : markB p x y (a.1, a.2) = true := ma
      have mb' : markB p x y (b.1, b.2) = true := mb
      exact ⟨k, by rw [if_pos ma']; exact mem_ins.mpr (.inr rfl), by rw [if_pos mb']; exact mem_ins.mpr (.inr rfl)⟩
theorem KeyOk.okP (h : KeyOk p k x y) : OkP (keyP k x y p) := by
  obtain ⟨h1, h2, h3⟩ := okP_iff.mp h.ok
  refine okP_iff.mpr ⟨by rw [keyP_len]; exact h1, fun l hl => ?_, ?_⟩
  · obtain ⟨l', hl', rfl⟩ := List.mem_map.mp hl
    have := h2 l' hl'
    have kn : ∀ b, k ∉ P.held l' b := fun b hk => h.new (by
      rw [mem_keysOf, mem_allKL]
      refine ⟨l', hl', ?_⟩
      cases b
      · exact .inl hk
      · exact .inr hk)
    have hr := h.room l' hl'
    have key : ∀ b, (P.held l' b).length ≠ 6 → isWordS (addL k b l').1 = true ∧ okKeys (addL k b l').2.1 = true ∧ okKeys (addL k b l').2.2 = true := fun b hb => by
      cases b
      · exact ⟨this.1, ins_ok this.2.1 h.word (kn false) hb, this.2.2⟩
      · exact ⟨this.1, this.2.1, ins_ok this.2.2 h.word (kn true) hb⟩
    unfold roomL at hr
    unfold keyL
    split
    · next e => rw [if_pos e] at hr; exact key _ (of_decide_eq_true hr)
    · next e =>
      rw [if_neg e] at hr
      split
      · next e2 => rw [if_pos e2] at hr; exact key _ (of_decide_eq_true hr)
      · exact this
  · have := keyP_names (k := k) (x := x) (y := y) (p := p)
    unfold namesOf at this
    rw [this]; exact h3
theorem KeyOk.lr (h : KeyOk p k x y) : idxN p x.1 ≠ idxN p y.1 := fun e => h.ne (by rw [← idxN_get h.fst, ← idxN_get h.snd]; simp only [e])
theorem KeyOk.isS (h : KeyOk p k x y) : IsS (keyP k x y p) r ↔ IsS p r ∧ ¬(r.getD (idxN p x.1) false = x.2 ∧ r.getD (idxN p y.1) false = y.2) := by
  have hn := h.ok.keysN
  have hn' := h.okP.keysN
  have hL := idxN_lt h.fst
  have hR := idxN_lt h.snd
  have hLR := h.lr
  constructor
  · intro hr
    have hl : r.length = p.length := by rw [hr.len, keyP_len]
    have hf := (fits_iff hn' hr.len).mp hr.fits
    rw [keyP_len] at hf
    refine ⟨⟨hl, (fits_iff hn hl).mpr fun i j hi hj hij => ?_⟩, ?_⟩
    · have := hf i j hi hj hij
      rw [h.bar hi hj, Bool.or_eq_false_iff] at this
      exact this.1
    · rintro ⟨e1, e2⟩
      have := hf _ _ hL hR hLR
      rw [h.bar hL hR, Bool.or_eq_false_iff, e1, e2] at this
      have := this.2
      simp [markB] at this
  · rintro ⟨hr, hno⟩
    have hl := hr.len
    refine ⟨by rw [keyP_len]; exact hl, (fits_iff hn' (by rw [keyP_len]; exact hl)).mpr fun i j hi hj hij => ?_⟩
    rw [keyP_len] at hi hj
    rw [h.bar hi hj, (fits_iff hn hl).mp hr.fits i j hi hj hij, Bool.false_or, Bool.and_eq_false_iff]
    cases ma : markB p x y (i, r.getD i false) with
    | false => exact .inl rfl
    | true =>
      refine .inr ?_
      cases mb : markB p x y (j, r.getD j false) with
      | false => rfl
      | true =>
        exfalso
        simp only [markB, Bool.or_eq_true, decide_eq_true_eq, Prod.mk.injEq] at ma mb
        rcases ma with ⟨rfl, e1⟩ | ⟨rfl, e1⟩ <;> rcases mb with ⟨rfl, e2⟩ | ⟨rfl, e2⟩
        · exact hij rfl
        · exact hno ⟨e1, e2⟩
        · exact hno ⟨e2, e1⟩
        · exact hij rfl
theorem drop_add (b : Bool) (l : Lock) (h1 : ascS l.2.1 = true ∧ k ∉ l.2.1) (h2 : ascS l.2.2 = true ∧ k ∉ l.2.2) : dropL k (addL k b l) = l := by
  have n1 : noKey k l.2.1 = l.2.1 := by
    unfold noKey; rw [List.filter_eq_self]; intro z hz; simp; exact fun e => h1.2 (e ▸ hz)
  have n2 : noKey k l.2.2 = l.2.2 := by
    unfold noKey; rw [List.filter_eq_self]; intro z hz; simp; exact fun e => h2.2 (e ▸ hz)
  cases b
  · show (l.1, noKey k (insKey k l.2.1), noKey k l.2.2) = l
    rw [noKey_ins h1.1 h1.2, n2]
  · show (l.1, noKey k l.2.1, noKey k (insKey k l.2.2)) = l
    rw [noKey_ins h2.1 h2.2, n1]
theorem KeyOk.drop (h : KeyOk p k x y) : dropP k (keyP k x y p) = p := by
  unfold dropP keyP
  rw [List.map_map]
  conv => rhs; rw [← List.map_id p]
  refine List.map_congr_left fun l hl => ?_
  have hl2 := (okP_iff.mp h.ok).2.1 l hl
  have kn : k ∉ l.2.1 ∧ k ∉ l.2.2 := by
    constructor
    · exact fun hk => h.new (by rw [mem_keysOf, mem_allKL]; exact ⟨l, hl, .inl hk⟩)
    · exact fun hk => h.new (by rw [mem_keysOf, mem_allKL]; exact ⟨l, hl, .inr hk⟩)
  have a1 := (okKeys_iff.mp hl2.2.1).2.2
  have a2 := (okKeys_iff.mp hl2.2.2).2.2
  show dropL k (keyL k x y l) = l
  unfold keyL
  split
  · exact drop_add _ _ ⟨a1, kn.1⟩ ⟨a2, kn.2⟩
  · split
    · exact drop_add _ _ ⟨a1, kn.1⟩ ⟨a2, kn.2⟩
    · have n1 : noKey k l.2.1 = l.2.1 := by
        unfold noKey; rw [List.filter_eq_self]; intro z hz; simp; exact fun e => kn.1 (e ▸ hz)
      have n2 : noKey k l.2.2 = l.2.2 := by
        unfold noKey; rw [List.filter_eq_self]; intro z hz; simp; exact fun e => kn.2 (e ▸ hz)
      show (l.1, noKey k l.2.1, noKey k l.2.2) = l
      rw [n1, n2]
theorem KeyOk.mem (h : KeyOk p k x y) : k ∈ keysOf (keyP k x y p) := by
  have hL := idxN_lt h.fst
  have hm : markB p x y (idxN p x.1, x.2) = true := by simp [markB]
  have hh := h.held hL x.2
  rw [if_pos hm] at hh
  have hk : k ∈ P.held (lk (keyP k x y p) (idxN p x.1)) x.2 := by rw [hh]; exact mem_ins.mpr (.inr rfl)
  rw [mem_keysOf, mem_allKL]
  refine ⟨_, lk_mem (by rw [keyP_len]; exact hL), ?_⟩
  cases hx : x.2
  · rw [hx] at hk; exact .inl hk
  · rw [hx] at hk; exact .inr hk
end
end TK.P
namespace TK.P
open PySem TK L2
end TK.P
namespace TK.P
open PySem TK L2
section
variable {p : List Lock} {r g q : List Bool} {i : Nat} {l c : List Nat}
theorem asc_names (hp : OkP p) : (namesOf p).Pairwise fun a b => ltS a b = true := asc_pair (okP_iff.mp hp).2.2
end
end TK.P
namespace TK.P
open PySem TK L2
section
variable {p : List Lock} {r g q x : List Bool} {i n : Nat}
abbrev dst (r q : List Bool) : Nat := (diffL r q).length
theorem dst_self (r : List Bool) : dst r r = 0 := by
  have : diffL r r = [] := by
    unfold diffL
    rw [List.filter_eq_nil_iff]
    intro i _; simp
  unfold dst
  rw [this]; rfl
theorem dst_flip (hl : r.length = q.length) (hi : i < q.length) : dst r (flipB q i) ≤ dst r q + 1 := by
  have := nodup_sub_len (l := diffL r (flipB q i)) (m := i :: diffL r q) (diff_nodup _ _) fun k hk => by
    obtain ⟨h1, h2, h3⟩ := mem_diff.mp hk
    by_cases e : k = i
    · simp [e]
    · rw [flip_at _ _ _ hi, if_neg e] at h3
      exact List.mem_cons_of_mem _ (mem_diff.mpr ⟨h1, by simpa using h2, h3⟩)
  simpa using this
theorem dst_zero (hl : r.length = q.length) (h : dst r q = 0) : r = q := row_ext hl fun k hk => Classical.byContradiction fun hne => by
  have : k ∈ diffL r q := mem_diff.mpr ⟨hk, by omega, hne⟩
  rw [List.length_eq_zero_iff.mp h] at this; simp at this
theorem dst_le (r q : List Bool) : dst r q ≤ r.length := diff_len r q
theorem Conn.step (hr : IsS p r) (h : Conn p r q) (hi : i < p.length) (hf : fitsB p (flipB q i) = true) : Conn p r (flipB q i) := by
  refine h.trans ⟨[i], by simpa using hi, ?_⟩
  show (stepI p q i).bind _ = _
  unfold stepI
  rw [if_pos hf]; rfl
structure Level (p : List Lock) (r : List Bool) (n : Nat) (ks wave : List (List Bool)) : Prop where
  nd : ks.Nodup
  sub : ∀ q ∈ ks, Conn p r q ∧ dst r q ≤ n
  full : ∀ q, Conn p r q → dst r q ≤ n → q ∈ ks
  wv : ∀ q, q ∈ wave ↔ q ∈ ks ∧ dst r q = n
  len : wave.length ≤ ks.length
structure Waves (p : List Lock) (r : List Bool) (n : Nat) (ks longer : List (List Bool)) (A : List Bool → Nat → Prop) : Prop where
  nd : ks.Nodup
  sub : ∀ q ∈ ks, Conn p r q ∧ dst r q ≤ n + 1
  full : ∀ q, Conn p r q → dst r q ≤ n → q ∈ ks
  new : ∀ q, q ∈ longer ↔ q ∈ ks ∧ dst r q = n + 1
  done : ∀ x i, A x i → fitsB p (flipB x i) = true → flipB x i ∈ ks
  len : longer.length ≤ ks.length
theorem Level.start (hr : IsS p r) : Level p r 0 [r] [r] := by
  refine ⟨by simp, fun q hq => ?_, fun q hq hd => ?_, fun q => ?_, by simp⟩
  · rw [List.mem_singleton.mp hq]; exact ⟨Conn.refl p r, by rw [dst_self]; omega⟩
  · rw [dst_zero (by rw [hr.len, (hq.isS hr).len]) (show dst r q = 0 by omega)]; simp
  · rw [List.mem_singleton]
    exact ⟨fun h => ⟨h, by rw [h, dst_self]⟩, fun h => h.1⟩
theorem Level.go {ks wave : List (List Bool)} (h : Level p r n ks wave) : Waves p r n ks [] (fun _ _ => False) :=
  ⟨h.nd, fun q hq => ⟨(h.sub q hq).1, by have := (h.sub q hq).2; omega⟩, h.full, fun q => ⟨fun z => by simp at z, fun z => by have := (h.sub q z.1).2; omega⟩, fun _ _ z => z.elim, by simp⟩
theorem Waves.mono {ks longer : List (List Bool)} {A B : List Bool → Nat → Prop} (h : Waves p r n ks longer A) (hab : ∀ x i, B x i → A x i) : Waves p r n ks longer B := ⟨h.nd, h.sub, h.full, h.new, fun x i z => h.done x i (hab x i z), h.len⟩
theorem Waves.add (hr : IsS p r) {ks longer : List (List Bool)} {A : List Bool → Nat → Prop} (h : Waves p r n ks longer A) (hx : Conn p r x) (hd : dst r x = n) (hi : i < p.length) (hf : fitsB p (flipB x i) = true) (hno : flipB x i ∉ ks) : Waves p r n (ks ++ [flipB x i]) (longer ++ [flipB x i]) (fun y j => A y j ∨ (y = x ∧ j = i)) ∧ dst r (flipB x i) = n + 1 := by
  have hxs := hx.isS hr
  have hc := hx.step hr hi hf
  have hdf := dst_flip (r := r) (q := x) (i := i) (by rw [hr.len, hxs.len]) (by rw [hxs.len]; exact hi)
  have hd1 : dst r (flipB x i) = n + 1 := by
    have : ¬dst r (flipB x i) ≤ n := fun h2 => hno (h.full _ hc h2)
    omega
  refine ⟨⟨?_, fun q hq => ?_, fun q hq hd => ?_, fun q => ?_, fun y j z hf2 => ?_, by simp; exact h.len⟩, hd1⟩
  · rw [List.nodup_append]
    exact ⟨h.nd, by simp, fun a ha b hb e => hno (by rw [List.mem_singleton.mp hb] at e; exact e ▸ ha)⟩
  · rcases List.mem_append.mp hq with hq | hq
    · exact h.sub q hq
    · rw [List.mem_singleton.mp hq]; exact ⟨hc, by omega⟩
  · exact List.mem_append_left _ (h.full q hq hd)
  · rw [List.mem_append, List.mem_append, List.mem_singleton, h.new q]
    constructor
    · rintro (⟨h1, h2⟩ | rfl)
      · exact ⟨.inl h1, h2⟩
      · exact ⟨.inr rfl, hd1⟩
    · rintro ⟨h1 | h1, h2⟩
      · exact .inl ⟨h1, h2⟩
      · exact .inr h1
  · rcases z with z | ⟨rfl, rfl⟩
    · exact List.mem_append_left _ (h.done y j z hf2)
    · simp
theorem Level.lt (hr : IsS p r) {ks wave : List (List Bool)} (h : Level p r n ks wave) (hw : wave ≠ []) : n ≤ p.length := by
  obtain ⟨q, hq⟩ := List.exists_mem_of_ne_nil _ hw
  have := ((h.wv q).mp hq).2
  have h2 := dst_le r q
  have := hr.len
  omega
end
end TK.P
namespace TK.P
open PySem TK L2
end TK.P
namespace TK.P
open PySem TK L2
end TK.P
namespace TK.P
open PySem TK L2
end TK.P
namespace TK.P
open PySem TK L2
section
variable {n : Nat} {p : List Lock} {d e w : D} {r g q : List Bool} {i : Nat} {ks : List (List Bool)}
instance : Enc rowsD 2 := inferInstanceAs (Enc (fun l : List (List Bool) => PyData.list (l.map rowD)) 2)
instance : Srt rowsD := inferInstanceAs (Srt (fun l : List (List Bool) => PyData.list (l.map rowD)))
end
end TK.P
namespace TK.P
open PySem TK L2
end TK.P
namespace TK.P
open PySem TK L2
section
variable {n : Nat} {p : List Lock} {d e w : D} {r g q : List Bool} {i : Nat} {s : Str} {x : List Pos} {rows : List (List Bool)}
def hasB (p : List Lock) (r : List Bool) (x : List Pos) : Bool := x.all fun y => decide (r.getD (idxN p y.1) false = y.2)
theorem atI_zero (a : D) (l : List D) : atI (a :: l) 0 = some a := by
  rw [atI_nat (a :: l) (v := 0) (by omega) (by rw [List.length_cons]; omega)]; rfl
end
end TK.P
namespace TK.P
open PySem TK L2
section
variable {n : Nat} {p : List Lock} {d e w : D} {r g q : List Bool} {i : Nat} {s : Str} {x y : List Pos} {rows : List (List Bool)}
theorem mem_bars {z : Bar} : z ∈ barsOf p ↔ ∃ a b : Spot, a.1 < p.length ∧ b.1 < p.length ∧ a.1 < b.1 ∧ barB p a b = true ∧ z = pairOf p a b := by
  unfold barsOf
  rw [sortE_mem]
  unfold barRows barRow
  simp only [List.mem_flatMap, mem_spots]
  constructor
  · rintro ⟨a, ha, b, hb, h⟩
    split at h
    · next hc =>
      rw [Bool.and_eq_true, decide_eq_true_eq] at hc
      exact ⟨a, b, ha, hb, hc.1, hc.2, List.mem_singleton.mp h⟩
    · simp at h
  · rintro ⟨a, b, ha, hb, h1, h2, rfl⟩
    exact ⟨a, ha, b, hb, by rw [if_pos (by simp [h1, h2])]; simp⟩
/-- the positions of a row -/
def ownL (p : List Lock) (r : List Bool) : List Pos := (List.range p.length).map fun i => ((lk p i).1, r.getD i false)
theorem zip_at (hl : r.length = p.length) : p.zip r = (List.range p.length).map fun i => (lk p i, r.getD i false) := by
  refine List.ext_getElem (by simp [hl]) fun i h1 h2 => ?_
  have hi : i < p.length := by simpa using h2
  simp [lk_lt hi, List.getD, show i < r.length by omega]
end
end TK.P
namespace TK.P
open PySem TK L2
end TK.P
namespace TK
open PySem L2
end TK
namespace TK.P
open PySem TK L2
section
variable {n k : Nat} {p : List Lock} {d e w : D} {r g q : List Bool} {i : Nat} {s : Str} {x y row : List Pos} {rows : List (List Bool)}
abbrev LenRow := Nat × List Nat
def lenD (z : LenRow) : D := .tuple [natD z.1, natsD z.2]
instance : Enc lenD 2 := ⟨fun a b => by
  obtain ⟨a1, a2⟩ := a
  obtain ⟨b1, b2⟩ := b
  have h1 := Enc.eq (f := natD) a1 b1
  have h2 := Enc.eq (f := natsD) a2 b2
  unfold lenD
  simp only [PyData.eqv, PyData.eqvAll, h1, h2, Prod.mk.injEq]
  simp, fun a => by
  obtain ⟨a1, a2⟩ := a
  have h2 := Enc.dp (f := natsD) a2
  unfold lenD
  simp [dep, natD, h2]⟩
instance : Srt lenD := ⟨fun a b => by
  have h2 := Srt.alk (f := natsD) a.2 b.2
  simp [lenD, natD, PySem.W.alike, PySem.W.alikeAll, h2]⟩
end
end TK.P
namespace TK.P
open PySem TK L2
section
variable {p : List Lock} {l m : List Nat} {i j : Nat}
theorem nm_lt (ok : OkP p) (hi : i < p.length) (hj : j < p.length) : ltS (lk p i).1 (lk p j).1 = decide (i < j) := by
  have h := asc_names ok
  unfold namesOf at h
  have key : ∀ a b, a < b → b < p.length → ltS (lk p a).1 (lk p b).1 = true := fun a b hab hb => by
    rw [List.pairwise_map] at h
    have := List.pairwise_iff_getElem.mp h a b (by omega) hb hab
    rw [lk_lt (by omega), lk_lt hb]; exact this
  by_cases hij : i < j
  · rw [key i j hij hj, decide_eq_true hij]
  · rw [decide_eq_false hij]
    by_cases e : i = j
    · subst e; exact ltS_irrefl _
    · have := key j i (by omega) hi
      cases h2 : ltS (lk p i).1 (lk p j).1 with
      | false => rfl
      | true => have := ltS_trans this h2; rw [ltS_irrefl] at this; cases this
end
end TK.P
namespace TK.P
open PySem TK L2
end TK.P
namespace TK.P
open PySem TK L2
end TK.P
namespace TK.P
open PySem TK L2
section
variable {n k : Nat} {p : List Lock} {d e w : D} {r g q : List Bool} {i : Nat} {s : Str} {x y row : List Pos} {rows : List (List Bool)}
instance : Srt setD := ⟨fun a b => by unfold setD; rw [PySem.W.alike]; exact alike_all Srt.alk a b⟩
abbrev LenPart := Nat × List Pos
def partD (z : LenPart) : D := .tuple [natD z.1, setD z.2]
instance : Enc partD 3 := ⟨fun a b => by
  obtain ⟨a1, a2⟩ := a
  obtain ⟨b1, b2⟩ := b
  have h1 := Enc.eq (f := natD) a1 b1
  have h2 := Enc.eq (f := setD) a2 b2
  unfold partD
  simp only [PyData.eqv, PyData.eqvAll, h1, h2, Prod.mk.injEq]
  simp, fun a => by
  obtain ⟨a1, a2⟩ := a
  have h2 := Enc.dp (f := setD) a2
  unfold partD
  simp [dep, natD, h2]⟩
instance : Srt partD := ⟨fun a b => by
  have h2 := Srt.alk (f := setD) a.2 b.2
  simp [partD, natD, PySem.W.alike, PySem.W.alikeAll, h2]⟩
abbrev LenName := Nat × List Str
def nameD (z : LenName) : D := .tuple [natD z.1, .list (z.2.map .str)]
instance : Enc nameD 2 := ⟨fun a b => by
  obtain ⟨a1, a2⟩ := a
  obtain ⟨b1, b2⟩ := b
  have h1 := Enc.eq (f := natD) a1 b1
  have h2 := Enc.eq (f := fun l : List Str => PyData.list (l.map .str)) a2 b2
  unfold nameD
  simp only [PyData.eqv, PyData.eqvAll, h1, Prod.mk.injEq] at h2 ⊢
  simp [h2], fun a => by
  obtain ⟨a1, a2⟩ := a
  have h2 := Enc.dp (f := fun l : List Str => PyData.list (l.map .str)) a2
  unfold nameD
  simp only [dep, natD, List.all_cons, List.all_nil, Bool.and_true, Bool.true_and]
  exact h2⟩
instance : Srt nameD := ⟨fun a b => by
  have h2 := Srt.alk (f := fun l : List Str => PyData.list (l.map .str)) a.2 b.2
  simp only [nameD, natD, PySem.W.alike, PySem.W.alikeAll] at h2 ⊢
  simp [h2]⟩
end
end TK.P
namespace TK.P
open PySem TK L2
section
variable {P : List Pair} {N U : List Str} {row l : List Str} {m n k : Nat}
/-- each step is a pair; none twice -/
structure CPath (P : List Pair) (N : List Str) (row : List Str) : Prop where
  nodup : row.Nodup
  ne : row ≠ []
  head : row.getD 0 "" ∈ N
  link : ∀ k, k + 1 < row.length → (row.getD k "", row.getD (k + 1) "") ∈ P
/-- what holds of names and pairs, so that chains end -/
structure ChOk (P : List Pair) (N U : List Str) : Prop where
  small : U.length ≤ 6
  nlen : N.length ≤ 6
  sub : ∀ a ∈ N, a ∈ U
  snd : ∀ z ∈ P, z.2 ∈ U
  few : ∀ a, (P.filter fun z => decide (z.1 = a)).length ≤ 6
theorem CPath.sub (hC : ChOk P N U) (h : CPath P N row) : ∀ a ∈ row, a ∈ U := fun a ha => by
  obtain ⟨k, hk, rfl⟩ := List.mem_iff_getElem.mp ha
  cases k with
  | zero =>
    have := h.head
    rw [List.getD_eq_getElem?_getD, List.getElem?_eq_getElem hk] at this
    exact hC.sub _ this
  | succ k =>
    have : row.getD (k + 1) "" ∈ U := hC.snd _ (h.link k hk)
    rw [List.getD_eq_getElem?_getD, List.getElem?_eq_getElem hk] at this
    exact this
theorem CPath.len (hC : ChOk P N U) (h : CPath P N row) : row.length ≤ 6 :=
  Nat.le_trans (List.Nodup.length_le_of_subset h.nodup (h.sub hC)) hC.small
end
end TK.P
namespace TK.P
open PySem TK L2
section
variable {P : List Pair} {N U : List Str} {row l : List Str} {m n k : Nat}
def strsD (l : List Str) : D := .list (l.map .str)
instance : Enc strsD 1 := inferInstanceAs (Enc (fun l : List Str => PyData.list (l.map .str)) 1)
instance : Srt strsD := inferInstanceAs (Srt (fun l : List Str => PyData.list (l.map .str)))
end
end TK.P
namespace TK.P
open PySem TK L2
end TK.P
namespace TK.P
open PySem TK L2
end TK.P
namespace TK.P
open PySem TK L2
section
variable {w : Nat → List Nat} {Ds order done : List Nat} {found : List (List Nat)} {i j k n : Nat}
def rowOf (w : Nat → List Nat) (Ds done : List Nat) : List Nat := Ds.filter fun i => !decide (i ∈ done) && (w i).all fun j => decide (j ∈ done)
end
end TK.P
namespace TK
open PySem L2
end TK
namespace TK.P
open PySem TK L2
section
variable {p : List Lock} {r g : List Bool} {d e w : D} {rows : List (List Str)} {row : List Str} {used : List Nat} {n : Nat}
def sortN (l : List Nat) : List Nat := sortE natD l
end
end TK.P
namespace TK.P
open PySem TK L2
end TK.P
namespace TK.P
open PySem TK L2
section
variable {w : Nat → List Nat} {Ds l : List Nat} {m n : Nat}
def ordX (w : Nat → List Nat) (Ds l : List Nat) : List (List Nat) := (rowOf w Ds l).map fun i => l ++ [i]
def ordN (w : Nat → List Nat) (Ds : List Nat) : Nat → List (List Nat)
  | 0 => [[]]
  | m + 1 => (ordN w Ds m).flatMap (ordX w Ds)
abbrev Tab := List (List Nat × Nat)
def valT (T : Tab) (k : List Nat) : Nat := (getA T k).getD 0
structure TabOk (w : Nat → List Nat) (Ds : List Nat) (m : Nat) (T : Tab) : Prop where
  nd : (T.map (·.1)).Nodup
  val : ∀ k, valT T k = (ordN w Ds m).countP fun l => decide (sortN l = k)
  from_ : ∀ k ∈ T.map (·.1), ∃ l ∈ ordN w Ds m, k = sortN l
end
end TK.P
namespace TK.P
open PySem TK L2
section
variable {w : Nat → List Nat} {Ds l : List Nat} {m n : Nat} {T : Tab} {k : List Nat}
def natT (l : List Nat) : D := .tuple (l.map natD)
instance : Enc natT 1 := inferInstanceAs (Enc (fun l : List Nat => PyData.tuple (l.map natD)) 1)
instance : Srt natT := inferInstanceAs (Srt (fun l : List Nat => PyData.tuple (l.map natD)))
end
end TK.P
namespace TK.P
open PySem TK L2
end TK.P
namespace TK.P
open PySem TK L2
end TK.P
namespace TK.P
open PySem TK L2
section
variable {p : List Lock} {r g q s : List Bool} {l : List Nat} {i j n : Nat}
abbrev Dist := Nat × List Bool
def distD (z : Dist) : D := .tuple [natD z.1, rowD z.2]
instance : Enc distD 2 := ⟨fun a b => by
  obtain ⟨a1, a2⟩ := a
  obtain ⟨b1, b2⟩ := b
  have h1 := Enc.eq (f := natD) a1 b1
  have h2 := Enc.eq (f := rowD) a2 b2
  unfold distD
  simp only [PyData.eqv, PyData.eqvAll, h1, h2, Prod.mk.injEq]
  simp, fun a => by
  obtain ⟨a1, a2⟩ := a
  have h2 := Enc.dp (f := rowD) a2
  unfold distD
  simp [dep, natD, h2]⟩
instance : Srt distD := ⟨fun a b => by
  have h2 := Srt.alk (f := rowD) a.2 b.2
  simp [distD, natD, PySem.W.alike, PySem.W.alikeAll, h2]⟩
end
end TK.P
namespace TK.P
open PySem TK L2
section
variable {a b c s : Str} {l m : List Str} {p : List Lock} {r : List Bool} {d e w : D} {n : Nat}
theorem cps_append (a b : Str) : (a ++ b).cps.toList = a.cps.toList ++ b.cps.toList := Array.toList_append
theorem app_assoc (a b c : Str) : a ++ b ++ c = a ++ (b ++ c) := str_ext (by rw [cps_append, cps_append, cps_append, cps_append, List.append_assoc])
theorem cps_nil : ("" : Str).cps.toList = [] := by decide +kernel
theorem app_nil (a : Str) : a ++ ("" : Str) = a := str_ext (by rw [cps_append, cps_nil, List.append_nil])
theorem nil_app (a : Str) : ("" : Str) ++ a = a := str_ext (by rw [cps_append, cps_nil, List.nil_append])
/-- one text of many -/
def catS (l : List Str) : Str := l.foldl (· ++ ·) ""
theorem foldl_cat (t : Str) : ∀ l : List Str, l.foldl (· ++ ·) t = t ++ catS l
  | [] => (app_nil t).symm
  | x :: l => by
    unfold catS
    rw [List.foldl_cons, List.foldl_cons, foldl_cat (t ++ x) l, foldl_cat ("" ++ x) l, nil_app, app_assoc]
theorem catS_cons (x : Str) (l : List Str) : catS (x :: l) = x ++ catS l := by
  unfold catS
  rw [List.foldl_cons, nil_app]
  exact foldl_cat x l
theorem catS_app (l m : List Str) : catS (l ++ m) = catS l ++ catS m := by
  unfold catS
  rw [List.foldl_append, foldl_cat]
  rfl
theorem catS_one (x : Str) : catS [x] = x := by rw [catS_cons]; exact app_nil x
theorem join_nil : ∀ l : List Str, Str.join "" l = catS l
  | [] => rfl
  | [x] => (catS_one x).symm
  | x :: y :: r => by
    show x ++ "" ++ Str.join "" (y :: r) = _
    rw [app_nil, join_nil (y :: r), catS_cons x]
theorem join_snoc (a x : Str) : ∀ l : List Str, l ≠ [] → Str.join a (l ++ [x]) = Str.join a l ++ a ++ x
  | [], h => absurd rfl h
  | [y], _ => rfl
  | y :: z :: r, _ => by
    show y ++ a ++ Str.join a (z :: r ++ [x]) = y ++ a ++ Str.join a (z :: r) ++ a ++ x
    rw [join_snoc a x (z :: r) (by simp)]
    simp only [app_assoc]
theorem len_app (a b : Str) : (a ++ b).length = a.length + b.length := Str.length_append a b
theorem catS_len : ∀ l : List Str, (catS l).length = (l.map (·.length)).sum
  | [] => rfl
  | x :: l => by rw [catS_cons, len_app, List.map_cons, List.sum_cons, catS_len l]
theorem app2_join {ys : List Str} (h : (ys.map (·.length)).sum + ys.length * a.length ≤ 16777216) : app2 .join (.str a) (.list (ys.map .str)) = some (.str (Str.join a ys)) := by
  show ((strsOf (ys.map PyData.str)).bind fun ys => if (ys.map (·.length)).sum + ys.length * a.length ≤ lim then some (PyData.str (Txt.join a ys)) else none) = _
  rw [strsOf_map, Option.bind_some, if_pos (by rw [limv]; exact h)]
  show some (PyData.str (Builtin.Str.glued a ys)) = _
  rw [StrLaws.glued_eq_join]
/-- the keys, each with a blank before it -/
def spS (ks : List Str) : Str := catS (ks.map fun k => " " ++ k)
def lineS (l : Lock) : Str := l.1 ++ ":" ++ spS l.2.1 ++ " |" ++ spS l.2.2
def plantS (p : List Lock) : Str := catS (p.map fun l => lineS l ++ "\n")
theorem sum_le {α : Type} {f : α → Nat} {c : Nat} : ∀ {l : List α}, (∀ a ∈ l, f a ≤ c) → (l.map f).sum ≤ l.length * c
  | [], _ => by simp
  | x :: l, h => by
    rw [List.map_cons, List.sum_cons, List.length_cons, Nat.succ_mul]
    have h1 := h x (by simp)
    have h2 := sum_le (l := l) fun a ha => h a (List.mem_cons_of_mem _ ha)
    omega
theorem sp_len {ks : List Str} (h : ∀ k ∈ ks, k.length ≤ 4) (hl : ks.length ≤ 6) : (spS ks).length ≤ 30 := by
  unfold spS
  rw [catS_len, List.map_map]
  have := sum_le (f := (fun x : Str => x.length) ∘ fun k => (" " : Str) ++ k) (c := 5) (l := ks) fun k hk => by
    show ((" " : Str) ++ k).length ≤ 5
    rw [len_app]
    have := h k hk
    have : (" " : Str).length = 1 := by decide +kernel
    omega
  omega
theorem ok_words (ok : OkP p) {x : Lock} (hx : x ∈ p) : x.1.length ≤ 4 ∧ (∀ k ∈ x.2.1, k.length ≤ 4) ∧ x.2.1.length ≤ 6 ∧ (∀ k ∈ x.2.2, k.length ≤ 4) ∧ x.2.2.length ≤ 6 := by
  obtain ⟨h1, h2, h3⟩ := (okP_iff.mp ok).2.1 x hx
  have a := okKeys_iff.mp h2
  have b := okKeys_iff.mp h3
  refine ⟨word_len h1, fun k hk => word_len (by simpa using a.2.1 k hk), a.1, fun k hk => word_len (by simpa using b.2.1 k hk), b.1⟩
theorem with_spaces_eq {ks : List Str} (h : ∀ k ∈ ks, k.length ≤ 4) (hl : ks.length ≤ 6) : f_with_spaces [.tuple (ks.map .str)] = pure (.str (spS ks)) := by
  unfold f_with_spaces
  rw [run_eq rfl]
  refine Pu.eq ?_
  have h1 : (" " : Str).length = 1 := by decide +kernel
  (conv => arg 1; simp -dsimp -implicitDefEqProofs [limv, -List.getD_eq_getElem?_getD, List.getD_cons_zero, List.getD_cons_succ, -bind_assoc', -ex_asg, -ex_ite, -ex_unp, -ex_par, -ex_for, nxM_cons, ex_asgK, asgK_def, ex_iteK, iteK_t, iteK_f, ex_unpK, unpK_def, ex_parK, parK_cons, ex_forK, forK_def, forJ_def, b_with_spaces]; try simp only [bind_assoc'])
  refine Pu.compMB (fun k => .str (" " ++ k)) (fun k hk => ?_) ?_
  · have := h k hk
    have e1 : (" " : Str).length + k.length ≤ 16777216 := by omega
    simp [compF, limv, e1]
  have e2 : (ks.map fun k => PyData.str (" " ++ k)) = (ks.map fun k => (" " : Str) ++ k).map .str := by rw [List.map_map]; rfl
  rw [e2]
  have hs := sum_le (f := (fun x : Str => x.length) ∘ fun k => (" " : Str) ++ k) (c := 5) (l := ks) fun k hk => by
    show ((" " : Str) ++ k).length ≤ 5
    rw [len_app]
    have := h k hk
    omega
  have e3 := app2_join (a := "") (ys := ks.map fun k => (" " : Str) ++ k) (by
    rw [List.map_map, show ("" : Str).length = 0 from rfl]
    omega)
  rw [join_nil] at e3
  have hw : app2 .join (.str "") (.list (ks.map (PyData.str ∘ fun k => (" " : Str) ++ k))) = some (.str (spS ks)) := by
    rw [← List.map_map]; exact e3
  (conv => arg 1; simp -dsimp -implicitDefEqProofs [limv, -List.getD_eq_getElem?_getD, List.getD_cons_zero, List.getD_cons_succ, -bind_assoc', -ex_asg, -ex_ite, -ex_unp, -ex_par, -ex_for, nxM_cons, ex_asgK, asgK_def, ex_iteK, iteK_t, iteK_f, ex_unpK, unpK_def, ex_parK, parK_cons, ex_forK, forK_def, forJ_def, hw]; try simp only [bind_assoc'])
  exact .pure rfl
theorem len_c1 : (":" : Str).length = 1 ∧ (" |" : Str).length = 2 ∧ ("\n" : Str).length = 1 ∧ ("=" : Str).length = 1 ∧ (" " : Str).length = 1 := by decide +kernel
theorem line_len (ok : OkP p) {x : Lock} (hx : x ∈ p) : (lineS x).length ≤ 67 := by
  obtain ⟨h1, h2, h3, h4, h5⟩ := ok_words ok hx
  have a := sp_len h2 h3
  have b := sp_len h4 h5
  obtain ⟨c1, c2, _⟩ := len_c1
  unfold lineS
  rw [len_app, len_app, len_app, len_app]; omega
theorem plant_text_eq (ok : OkP p) : f_plant_text [plantD p] = pure (.str (plantS p)) := by
  have h8 := (okP_iff.mp ok).1.2
  obtain ⟨c1, c2, c3, _⟩ := len_c1
  unfold f_plant_text
  rw [run_eq rfl]
  refine Pu.eq ?_
  (conv => arg 1; simp -dsimp -implicitDefEqProofs [limv, -List.getD_eq_getElem?_getD, List.getD_cons_zero, List.getD_cons_succ, -bind_assoc', -ex_asg, -ex_ite, -ex_unp, -ex_par, -ex_for, nxM_cons, ex_asgK, asgK_def, ex_iteK, iteK_t, iteK_f, ex_unpK, unpK_def, ex_parK, parK_cons, ex_forK, forK_def, forJ_def, b_plant_text]; try simp only [bind_assoc'])
  refine Pu.compMB (fun l : Lock => .str (lineS l)) (fun l hl => ?_) ?_
  · obtain ⟨h1, h2, h3, h4, h5⟩ := ok_words ok hl
    have a := sp_len h2 h3
    have b := sp_len h4 h5
    have e1 := with_spaces_eq h2 h3
    have e2 := with_spaces_eq h4 h5
    have l1 := len_app l.1 ":"
    have l2 := len_app (l.1 ++ ":") (spS l.2.1)
    have l3 := len_app (l.1 ++ ":" ++ spS l.2.1) " |"
    have f1 : l.1.length + (":" : Str).length ≤ 16777216 := by omega
    have f2 : (l.1 ++ ":").length + (spS l.2.1).length ≤ 16777216 := by omega
    have f3 : (l.1 ++ ":" ++ spS l.2.1).length + (" |" : Str).length ≤ 16777216 := by omega
    have f4 : (l.1 ++ ":" ++ spS l.2.1 ++ " |").length + (spS l.2.2).length ≤ 16777216 := by
      have := len_app (l.1 ++ ":" ++ spS l.2.1) " |"
      omega
    simp [compF, limv, e1, e2, f1, f2, f3, f4, lineS]
  (conv => arg 1; simp -dsimp -implicitDefEqProofs [limv, -List.getD_eq_getElem?_getD, List.getD_cons_zero, List.getD_cons_succ, -bind_assoc', -ex_asg, -ex_ite, -ex_unp, -ex_par, -ex_for, nxM_cons, ex_asgK, asgK_def, ex_iteK, iteK_t, iteK_f, ex_unpK, unpK_def, ex_parK, parK_cons, ex_forK, forK_def, forJ_def]; try simp only [bind_assoc'])
  refine Pu.compMB (fun l : Lock => .str (lineS l ++ "\n")) (fun l hl => ?_) ?_
  · have := line_len ok hl
    have f1 : (lineS l).length + ("\n" : Str).length ≤ 16777216 := by omega
    simp [compF, limv, f1]
  have hs := sum_le (f := (fun x : Str => x.length) ∘ fun l : Lock => lineS l ++ "\n") (c := 68) (l := p) fun l hl => by
    show (lineS l ++ "\n").length ≤ 68
    rw [len_app]
    have := line_len ok hl
    omega
  have e3 := app2_join (a := "") (ys := p.map fun l => lineS l ++ "\n") (by
    rw [List.map_map, show ("" : Str).length = 0 from rfl]
    omega)
  rw [join_nil, List.map_map] at e3
  have e3 : app2 .join (.str "") (.list (p.map fun l : Lock => .str (lineS l ++ "\n"))) = some (.str (plantS p)) := e3
  (conv => arg 1; simp -dsimp -implicitDefEqProofs [limv, -List.getD_eq_getElem?_getD, List.getD_cons_zero, List.getD_cons_succ, -bind_assoc', -ex_asg, -ex_ite, -ex_unp, -ex_par, -ex_for, nxM_cons, ex_asgK, asgK_def, ex_iteK, iteK_t, iteK_f, ex_unpK, unpK_def, ex_parK, parK_cons, ex_forK, forK_def, forJ_def, e3]; try simp only [bind_assoc'])
  exact .pure rfl
def bitS (b : Bool) : Str := if b then "1" else "0"
theorem str_bit (b : Bool) : app1 .str (bD b) = some (.str (bitS b)) := by
  cases b
  · show some (PyData.str (toString (0 : Int) : String)) = some (PyData.str ("0" : String))
    rfl
  · show some (PyData.str (toString (1 : Int) : String)) = some (PyData.str ("1" : String))
    rfl
def posS (p : List Lock) (r : List Bool) (i : Nat) : Str := (lk p i).1 ++ "=" ++ bitS (r.getD i false)
def stateS (p : List Lock) (r : List Bool) : Str := Str.join " " ((List.range p.length).map (posS p r))
theorem bitS_len (b : Bool) : (bitS b).length = 1 := by cases b <;> decide +kernel
theorem pos_len (ok : OkP p) (r : List Bool) {i : Nat} (hi : i < p.length) : (posS p r i).length ≤ 6 := by
  obtain ⟨h1, _⟩ := ok_words ok (lk_mem hi)
  obtain ⟨_, _, _, c4, _⟩ := len_c1
  unfold posS
  rw [len_app, len_app, bitS_len]; omega
theorem state_text_eq (ok : OkP p) (hl : r.length = p.length) : f_state_text [plantD p, rowD r] = pure (.str (stateS p r)) := by
  have h8 := (okP_iff.mp ok).1.2
  obtain ⟨_, _, _, c4, c5⟩ := len_c1
  unfold f_state_text
  rw [run_eq rfl]
  refine Pu.eq ?_
  have ew : walkL .zip2 [plantD p, rowD r] = some ((List.range p.length).map fun i => .tuple [lockD (lk p i), bD (r.getD i false)]) := by
    have := walk_zip_map lockD bD p r
    rw [zip_at hl, List.map_map] at this
    exact this
  (conv => arg 1; simp -dsimp -implicitDefEqProofs [limv, -List.getD_eq_getElem?_getD, List.getD_cons_zero, List.getD_cons_succ, -bind_assoc', -ex_asg, -ex_ite, -ex_unp, -ex_par, -ex_for, nxM_cons, ex_asgK, asgK_def, ex_iteK, iteK_t, iteK_f, ex_unpK, unpK_def, ex_parK, parK_cons, ex_forK, forK_def, forJ_def, b_state_text, ew]; try simp only [bind_assoc'])
  refine Pu.compMB (fun i => .str (posS p r i)) (fun i hi => ?_) ?_
  · have hi := List.mem_range.mp hi
    obtain ⟨h1, _⟩ := ok_words ok (lk_mem hi)
    have l1 := len_app (lk p i).1 "="
    have b1 := bitS_len (r.getD i false)
    have f1 : (lk p i).1.length + ("=" : Str).length ≤ 16777216 := by omega
    have f2 : ((lk p i).1 ++ "=").length + (bitS (r.getD i false)).length ≤ 16777216 := by omega
    have e1 := str_bit (r.getD i false)
    unfold posS
    generalize r.getD i false = b at *
    simp [compF, limv, e1, f1, f2]
  have hs := sum_le (f := (fun x : Str => x.length) ∘ posS p r) (c := 6) (l := List.range p.length) fun i hi => pos_len ok r (List.mem_range.mp hi)
  have e3 := app2_join (a := " ") (ys := (List.range p.length).map (posS p r)) (by
    rw [List.map_map, List.length_map]
    rw [List.length_range] at hs ⊢
    rw [c5]
    omega)
  rw [List.map_map] at e3
  have e3 : app2 .join (.str " ") (.list ((List.range p.length).map fun i => .str (posS p r i))) = some (.str (stateS p r)) := e3
  (conv => arg 1; simp -dsimp -implicitDefEqProofs [limv, -List.getD_eq_getElem?_getD, List.getD_cons_zero, List.getD_cons_succ, -bind_assoc', -ex_asg, -ex_ite, -ex_unp, -ex_par, -ex_for, nxM_cons, ex_asgK, asgK_def, ex_iteK, iteK_t, iteK_f, ex_unpK, unpK_def, ex_parK, parK_cons, ex_forK, forK_def, forJ_def, e3]; try simp only [bind_assoc'])
  exact .pure rfl
theorem format_plant_eq (ok : OkP p) : f_format_plant [plantD p] = pure (.str (plantS p)) := by
  unfold f_format_plant
  rw [run_eq rfl]
  simp [b_format_plant, require_plant_ok ok, plant_text_eq ok]
theorem format_state_eq (ok : OkP p) (hr : isSt p (rowD r) = true) (hl : r.length = p.length) : f_format_state [plantD p, rowD r] = pure (.str (stateS p r)) := by
  unfold f_format_state
  rw [run_eq rfl]
  simp [b_format_state, require_state_ok ok hr, state_text_eq ok hl]
end
end TK.P
namespace TK.P
open PySem TK L2
end TK.P
namespace TK.P
open PySem TK L2
section
variable {n m : Nat} {w w1 w2 : Nat → List Nat} {D1 D2 l l1 l2 : List Nat}
def lo (n : Nat) (l : List Nat) : List Nat := l.filter fun i => decide (i < n)
def hi (n : Nat) (l : List Nat) : List Nat := (l.filter fun i => !decide (i < n)).map (· - n)
def up (n : Nat) (l : List Nat) : List Nat := l.map (n + ·)
end
end TK.P
namespace TK.P
open PySem TK L2
end TK.P
namespace TK.P
open PySem TK L2
section
variable {n m : Nat} {p : List Lock} {d e w : D} {r : List Bool} {k : Str} {x y : Pos} {gs : List Bar} {g : Bar}
def okGrd (p : List Lock) (r : List Bool) (g : Bar) : Bool := decide (g.1.1 ∈ namesOf p) && decide (g.2.1 ∈ namesOf p) && (ltS g.1.1 g.2.1 && !hasB p r [g.1, g.2])
def letters : List Str := (Str.ofString "abcdefghijklmnopqrstuvwxyz").cps.toList.map fun c => ⟨#[c]⟩
theorem letters_word : ∀ s ∈ letters, isWordS s = true := List.all_eq_true.mp (by decide +kernel)
def newW (p : List Lock) : List Str := letters.filter fun s => !decide (s ∈ keysOf p)
theorem newW_mem {s : Str} (h : s ∈ newW p) : isWordS s = true ∧ s ∉ keysOf p := by
  unfold newW at h
  rw [List.mem_filter] at h
  exact ⟨letters_word s h.1, by simpa using h.2⟩
/-- two different locks of the plant -/
structure GNames (p : List Lock) (g : Bar) : Prop where
  fst : g.1.1 ∈ namesOf p
  snd : g.2.1 ∈ namesOf p
  ne : g.1.1 ≠ g.2.1
theorem GNames.of (h : okGrd p r g = true) : GNames p g := by
  simp only [okGrd, Bool.and_eq_true, decide_eq_true_eq] at h
  exact ⟨h.1.1, h.1.2, fun e => by have := h.2.1; rw [e, ltS_irrefl] at this; cases this⟩
theorem GNames.key (h : GNames p g) (h' : p.all (roomL g.1 g.2) = true) (ok : OkP p) {ws : List Str} (hw : newW p = k :: ws) : KeyOk p k g.1 g.2 := by
  have := newW_mem (p := p) (s := k) (by rw [hw]; simp)
  exact ⟨ok, this.1, this.2, h.fst, h.snd, h.ne, List.all_eq_true.mp h'⟩
end
end TK.P
namespace TK.P
open PySem TK L2
section
variable {n m : Nat} {p : List Lock} {d e w : D} {r : List Bool} {k : Str} {x : List Pos} {a b : Pos} {gs : List Bar} {g : Bar} {xs : List (List Pos)}
@[simp] theorem walk_set (x : List Pos) : walkL .plain [setD x] = some (x.map posD) := rfl
end
end TK.P
namespace TK.P
open PySem TK L2
section
variable {n m c : Nat} {p : List Lock} {d e w : D} {r : List Bool} {k : Str} {x y : Pos} {gs : List Bar} {g : Bar} {xs : List (List Pos)}
def Cap (c : Nat) (p : List Lock) : Prop := ∀ l ∈ p, ∀ b, (held l b).length ≤ c
theorem Cap.room (h : Cap c p) (hc : c < 6) : p.all (roomL x y) = true := List.all_eq_true.mpr fun l hl => by
  have h1 := h l hl
  unfold roomL
  split
  · have := h1 x.2
    exact decide_eq_true (by omega)
  · split
    · have := h1 y.2
      exact decide_eq_true (by omega)
    · rfl
theorem Drawn.key (hp : Drawn m p) {s : Str} (h : s ∈ keysOf p) : s ∈ drawnKeys := by
  rw [mem_keysOf, mem_allKL] at h
  obtain ⟨l, hl, h⟩ := h
  exact h.elim (fun h => (hp.fst l hl).2.2 _ h) fun h => (hp.snd l hl).2.2 _ h
end
end TK.P
namespace TK.P
open PySem TK L2
end TK.P
namespace TK.P
open PySem TK L2
section
variable {n m : Nat} {p : List Lock} {d e w : D} {r : List Bool} {x : List Pos} {gs G : List Bar} {g : Bar} {xs : List (List Pos)}
def covB (g : Bar) (x : List Pos) : Bool := decide (g.1 ∈ x) && decide (g.2 ∈ x)
@[simp] theorem ix_bar0 (g : Bar) : app2 .ix (barD g) (.int 0) = some (posD g.1) := rfl
@[simp] theorem ix_bar1 (g : Bar) : app2 .ix (barD g) (.int 1) = some (posD g.2) := rfl
end
end TK.P
namespace TK.P
open PySem TK L2
section
variable {n m : Nat} {p : List Lock} {d e w : D} {r : List Bool} {x : List Pos} {gs G : List Bar} {g : Bar} {xs : List (List Pos)}
theorem walk_list (l : List D) : walkL .plain [.list l] = some l := rfl
end
end TK.P
namespace TK
open PySem L2
end TK
namespace TK.P
open PySem TK L2
section
variable {n m : Nat} {p : List Lock} {d e w : D} {r : List Bool} {x : List Pos} {gs G row : List Bar} {g : Bar} {xs : List (List Pos)}
def gD (row : List Bar) : D := .list (row.map barD)
instance : Enc gD 3 := inferInstanceAs (Enc (fun l : List Bar => PyData.list (l.map barD)) 3)
@[simp high] theorem asg_bar (a b : Tg) (g : Bar) (e : Env) : asgT (.t [a, b]) (barD g) e = asgTs [a, b] [posD g.1, posD g.2] e := rfl
end
end TK.P
namespace TK.P
open PySem TK L2
section
variable {n m : Nat} {p q : List Lock} {d e w : D} {r : List Bool} {k : Str} {x : List Pos} {gs G row : List Bar} {g : Bar} {xs : List (List Pos)}
structure Wide (p : List Lock) (gs : List Bar) (q : List Lock) : Prop where
  ok : OkP q
  names : namesOf q = namesOf p
  isS : ∀ r, IsS q r ↔ IsS p r ∧ ∀ g ∈ gs, hasB p r [g.1, g.2] = false
  bar : ∀ a b : Spot, a.1 < p.length → b.1 < p.length → barB p a b = true → barB q a b = true
  new : ∀ g ∈ gs, barB q (idxN p g.1.1, g.1.2) (idxN p g.2.1, g.2.2) = true
theorem hasB_names (h : namesOf q = namesOf p) (r : List Bool) (x : List Pos) : hasB q r x = hasB p r x := by
  unfold hasB idxN
  rw [h]
theorem Wide.len (W : Wide p gs q) : q.length = p.length := by
  have := congrArg List.length W.names
  simpa [namesOf] using this
theorem has_sub {y : List Pos} (h : hasB p r x = true) (hs : ∀ z ∈ y, z ∈ x) : hasB p r y = true := by
  unfold hasB at *
  rw [List.all_eq_true] at *
  exact fun z hz => h z (hs z hz)
theorem cov_has (h : covB g x = true) (hx : hasB p r x = true) : hasB p r [g.1, g.2] = true := by
  simp only [covB, Bool.and_eq_true, decide_eq_true_eq] at h
  refine has_sub hx fun z hz => ?_
  simp only [List.mem_cons, List.not_mem_nil, or_false] at hz
  rcases hz with rfl | rfl
  · exact h.1
  · exact h.2
theorem Wide.none (W : Wide p gs q) (hc : ∃ g ∈ gs, covB g x = true) (hr : IsS q r) : hasB q r x = false := by
  obtain ⟨g, hg, h⟩ := hc
  cases e : hasB q r x with
  | false => rfl
  | true =>
    rw [hasB_names W.names] at e
    have := ((W.isS r).mp hr).2 g hg
    rw [cov_has h e] at this; cases this
theorem Wide.bars (W : Wide p gs q) (ok : OkP p) (hg : okGrd p r g = true) (h : g ∈ gs) : g ∈ barsOf q := by
  have gn := GNames.of hg
  have hi := idxN_lt gn.fst
  have hj := idxN_lt gn.snd
  have nq : ∀ {s : Str}, s ∈ namesOf p → (lk q (idxN p s)).1 = s := fun {s} hs => by
    have hs' : s ∈ namesOf q := by rw [W.names]; exact hs
    have e : idxN p s = idxN q s := by unfold idxN; rw [W.names]
    rw [e, lk_lt (idxN_lt hs')]
    exact idxN_get hs'
  have np : ∀ {s : Str}, s ∈ namesOf p → (lk p (idxN p s)).1 = s := fun {s} hs => by
    rw [lk_lt (idxN_lt hs)]
    exact idxN_get hs
  simp only [okGrd, Bool.and_eq_true, decide_eq_true_eq] at hg
  have hij : idxN p g.1.1 < idxN p g.2.1 := by
    have := nm_lt ok hi hj
    rw [np gn.fst, np gn.snd, hg.2.1] at this
    exact of_decide_eq_true this.symm
  rw [mem_bars]
  refine ⟨(idxN p g.1.1, g.1.2), (idxN p g.2.1, g.2.2), by rw [W.len]; exact hi, by rw [W.len]; exact hj, hij, W.new g h, ?_⟩
  unfold pairOf
  rw [nq gn.fst, nq gn.snd]
end
end TK.P
namespace TK.P
open PySem TK L2
/-- a lock's place in four dangers: not there, as it stands (true), turned -/
abbrev Ob := Option Bool
abbrev Vec := Ob × Ob × Ob × Ob
def obs : List Ob := [none, some true, some false]
def np (u : Vec) : Nat := (if u.1.isSome then 1 else 0) + (if u.2.1.isSome then 1 else 0) + (if u.2.2.1.isSome then 1 else 0) + (if u.2.2.2.isSome then 1 else 0)
def at1 (u : Vec) : Bool := u.1.isNone
end TK.P
namespace TK.P
open PySem TK L2
end TK.P
namespace TK.P
open PySem TK L2
end TK.P
namespace TK.P
open PySem TK L2
section
variable {n m : Nat} {p q : List Lock} {r : List Bool} {k : Str} {g : Bar} {gs : List Bar}
/-- no key in common -/
def Loose (p : List Lock) : Prop := ∀ a c : Spot, a.1 < p.length → c.1 < p.length → a.1 ≠ c.1 → barB p a c = false
theorem Loose.isS (h : Loose p) (ok : OkP p) (hl : r.length = p.length) : IsS p r := ⟨hl, (fits_iff ok.keysN hl).mpr fun i j hi hj hij => h (i, r.getD i false) (j, r.getD j false) hi hj hij⟩
theorem Loose.bars (h : Loose p) : barsOf p = [] := by
  refine List.eq_nil_iff_forall_not_mem.mpr fun z hz => ?_
  obtain ⟨a, b, ha, hb, hab, hB, _⟩ := mem_bars.mp hz
  rw [h a b ha hb (by omega)] at hB; cases hB
end
end TK.P
namespace TK.P
open PySem TK L2
section
variable {n m : Nat} {p q : List Lock} {r : List Bool} {k : Str} {ns : List Int}
def looseNames : List Str := ["a", "b", "c", "d", "e", "f", "g", "h"]
/-- a drawn plant without a key in common -/
structure LooseD (p : List Lock) : Prop where
  ok : OkP p
  five : 5 ≤ p.length
  loose : Loose p
  cap : Cap 5 p
  nms : ∀ l ∈ p, l.1 ∈ looseNames
end
end TK.P
namespace TK.P
open PySem TK L2
end TK.P
namespace TK.P
open PySem TK L2
end TK.P
namespace TK.P
open PySem TK L2
end TK.P
namespace TK.P
open PySem TK L2
section
variable {n m : Nat} {p q : List Lock} {r : List Bool} {k : Str} {ns : List Int} {d e w : D} {x : List Pos} {xs : List (List Pos)} {gs G : List Bar} {g : Bar} {a b : Pos}
theorem LooseD.no (hp : LooseD p) {s : Str} (hs : s ∉ looseNames) : s ∉ namesOf p := fun h => by
  obtain ⟨l0, h0, h1⟩ := List.mem_map.mp h
  have := hp.nms l0 h0
  rw [h1] at this
  exact hs this
end
end TK.P
namespace TK.P
open PySem TK L2
section
variable {p : List Lock} {f : Pos → Int} {P : List Pos} {z : Pos} {v : Int}
def encR (f : Pos → Int) (q : Pos) : D × D := (posD q, .int (f q))
end
end TK.P
namespace TK.P
open PySem TK L2
end TK.P
namespace TK.P
open PySem TK L2
section
variable {a b s : Str} {l m : List Str} {c : Nat} {p : List Lock}
/-- pieces with one sign between them, as signs -/
def gl (c : Nat) : List (List Nat) → List Nat
  | [] => []
  | [x] => x
  | x :: y :: r => x ++ c :: gl c (y :: r)
theorem app_inj {c : Nat} : ∀ {x y u v : List Nat}, c ∉ x → c ∉ y → x ++ c :: u = y ++ c :: v → x = y ∧ u = v
  | [], [], _, _, _, _, h => by simpa using h
  | [], b :: y, _, _, _, hy, h => by
    simp only [List.nil_append, List.cons_append, List.cons.injEq] at h
    exact absurd (by rw [h.1]; simp) hy
  | a :: x, [], _, _, hx, _, h => by
    simp only [List.nil_append, List.cons_append, List.cons.injEq] at h
    exact absurd (by rw [h.1]; simp) hx
  | a :: x, b :: y, u, v, hx, hy, h => by
    simp only [List.cons_append, List.cons.injEq] at h
    obtain ⟨h1, h2⟩ := app_inj (fun z => hx (List.mem_cons_of_mem _ z)) (fun z => hy (List.mem_cons_of_mem _ z)) h.2
    exact ⟨by rw [h.1, h1], h2⟩
theorem gl_inj {c : Nat} : ∀ {l m : List (List Nat)}, l ≠ [] → m ≠ [] → (∀ x ∈ l, c ∉ x) → (∀ x ∈ m, c ∉ x) → gl c l = gl c m → l = m
  | [], _, h, _, _, _, _ => absurd rfl h
  | _ :: _, [], _, h, _, _, _ => absurd rfl h
  | [x], [y], _, _, _, _, h => by rw [show x = y from h]
  | [x], y :: z :: r, _, _, hx, _, h => by
    have h : x = y ++ c :: gl c (z :: r) := h
    exact absurd (by rw [h]; simp) (hx x (by simp))
  | x :: w :: q, [y], _, _, _, hy, h => by
    have h : x ++ c :: gl c (w :: q) = y := h
    exact absurd (by rw [← h]; simp) (hy y (by simp))
  | x :: w :: q, y :: z :: r, _, _, hx, hy, h => by
    obtain ⟨h1, h2⟩ := app_inj (hx x (by simp)) (hy y (by simp)) h
    rw [h1, gl_inj (by simp) (by simp) (fun u hu => hx u (List.mem_cons_of_mem _ hu)) (fun u hu => hy u (List.mem_cons_of_mem _ hu)) h2]
def ch (c : Nat) : Str := ⟨#[c]⟩
theorem ch_cps (c : Nat) : (ch c).cps.toList = [c] := rfl
theorem join_cps (c : Nat) : ∀ l : List Str, (Str.join (ch c) l).cps.toList = gl c (l.map fun s => s.cps.toList)
  | [] => cps_nil
  | [x] => rfl
  | x :: y :: r => by
    show (x ++ ch c ++ Str.join (ch c) (y :: r)).cps.toList = x.cps.toList ++ c :: gl c ((y :: r).map fun s => s.cps.toList)
    rw [cps_append, cps_append, ch_cps, join_cps c (y :: r), List.append_assoc]
    rfl
theorem map_cps_inj : ∀ {l m : List Str}, (l.map fun s => s.cps.toList) = (m.map fun s => s.cps.toList) → l = m
  | [], [], _ => rfl
  | [], _ :: _, h => by cases h
  | _ :: _, [], h => by cases h
  | x :: l, y :: m, h => by
    simp only [List.map_cons, List.cons.injEq] at h
    rw [str_ext h.1, map_cps_inj h.2]
theorem join_inj {c : Nat} (hl : l ≠ []) (hm : m ≠ []) (h1 : ∀ x ∈ l, c ∉ x.cps.toList) (h2 : ∀ x ∈ m, c ∉ x.cps.toList) (h : Str.join (ch c) l = Str.join (ch c) m) : l = m := by
  refine map_cps_inj (gl_inj (c := c) (by simpa using hl) (by simpa using hm) (fun x hx => ?_) (fun x hx => ?_) ?_)
  · obtain ⟨s, hs, rfl⟩ := List.mem_map.mp hx; exact h1 s hs
  · obtain ⟨s, hs, rfl⟩ := List.mem_map.mp hx; exact h2 s hs
  · rw [← join_cps, ← join_cps, h]
theorem split_ne (s : Str) (c : Nat) : Txt.split s (ch c) ≠ [] := fun h => by
  have := StrLaws.join_split s (ch c)
  have h2 := PyProof.Rows.split_pos s (ch c)
  rw [h] at h2
  simp at h2
/-- what was put together is taken apart -/
theorem split_join (hl : l ≠ []) (hf : ∀ x ∈ l, c ∉ x.cps.toList) : Txt.split (Str.join (ch c) l) (ch c) = l :=
  join_inj (split_ne _ _) hl (StrLaws.split_free _ c) hf (StrLaws.join_split _ _)
theorem sp_ch : (" " : Str) = ch 32 := by decide +kernel
theorem nl_ch : ("\n" : Str) = ch 10 := by decide +kernel
theorem co_ch : (":" : Str) = ch 58 := by decide +kernel
theorem bar_ch : ("|" : Str) = ch 124 := by decide +kernel
theorem spbar : (" |" : Str) = " " ++ "|" := by decide +kernel
theorem ends_ch (s : Str) (c : Nat) : Txt.endswith (s ++ ch c) (ch c) = true := by
  unfold Txt.endswith
  have hl : (s ++ ch c).length = s.length + 1 := by rw [len_app]; rfl
  have h1 : (ch c).length = 1 := rfl
  rw [hl, h1, Nat.add_sub_cancel]
  have := (StrLaws.subAt_one (s ++ ch c) c s.length).mpr (by
    rw [cps_append, List.getElem?_append_right (by simp [Str.length])]
    simp [Str.length, ch_cps])
  have h2 : Builtin.Str.subAt (s ++ ch c) (ch c) s.length = true := this.2
  rw [h2]
  simp
theorem join_cons (c : Nat) (x : Str) : ∀ l : List Str, Str.join (ch c) (x :: l) = x ++ catS (l.map fun k => ch c ++ k)
  | [] => (app_nil x).symm
  | y :: r => by
    show x ++ ch c ++ Str.join (ch c) (y :: r) = _
    rw [join_cons c y r, List.map_cons, catS_cons, app_assoc, app_assoc]
theorem join_lines (c : Nat) : ∀ l : List Str, Str.join (ch c) (l ++ [("" : Str)]) = catS (l.map fun k => k ++ ch c)
  | [] => rfl
  | [x] => by
    show x ++ ch c ++ ("" : Str) = catS [x ++ ch c]
    rw [app_nil, catS_one]
  | x :: y :: r => by
    show x ++ ch c ++ Str.join (ch c) (y :: r ++ [("" : Str)]) = _
    rw [join_lines c (y :: r)]
    exact (catS_cons _ _).symm
/-- the words of a line -/
def lineW (l : Lock) : List Str := (l.1 ++ ":") :: (l.2.1 ++ ("|" : Str) :: l.2.2)
theorem line_join (l : Lock) : lineS l = Str.join (ch 32) (lineW l) := by
  unfold lineW lineS spS
  rw [join_cons, sp_ch, List.map_append, catS_app, List.map_cons, catS_cons, ← sp_ch, spbar]
  simp only [app_assoc]
theorem word_no {s : Str} (h : isWordS s = true) {c : Nat} (hc : ¬ (97 ≤ c ∧ c ≤ 122)) : c ∉ s.cps.toList := fun hm => by
  simp only [isWordS, Bool.and_eq_true, List.all_eq_true] at h
  have := h.2 c hm
  simp only [isLow, decide_eq_true_eq] at this
  exact hc this
theorem lineW_free {l : Lock} (h1 : isWordS l.1 = true) (h2 : okKeys l.2.1 = true) (h3 : okKeys l.2.2 = true) {c : Nat} (hc : ¬ (97 ≤ c ∧ c ≤ 122)) (h58 : c ≠ 58) (h124 : c ≠ 124) : ∀ x ∈ lineW l, c ∉ x.cps.toList := by
  intro x hx
  unfold lineW at hx
  rcases List.mem_cons.mp hx with rfl | hx
  · rw [cps_append, List.mem_append, co_ch, ch_cps, List.mem_singleton]
    rintro (h | h)
    · exact word_no h1 hc h
    · exact h58 h
  · rcases List.mem_append.mp hx with hx | hx
    · exact word_no ((okKeys_iff.mp h2).2.1 x hx) hc
    · rcases List.mem_cons.mp hx with rfl | hx
      · rw [bar_ch, ch_cps, List.mem_singleton]; exact h124
      · exact word_no ((okKeys_iff.mp h3).2.1 x hx) hc
theorem line_split {l : Lock} (h1 : isWordS l.1 = true) (h2 : okKeys l.2.1 = true) (h3 : okKeys l.2.2 = true) : Txt.split (lineS l) " " = lineW l := by
  rw [line_join, sp_ch]
  exact split_join (by simp [lineW]) (lineW_free h1 h2 h3 (by omega) (by omega) (by omega))
theorem word_ne_bar {s : Str} (h : isWordS s = true) : s ≠ "|" := fun e => by
  have := word_no h (c := 124) (by omega)
  rw [e, bar_ch, ch_cps] at this
  exact this (by simp)
theorem colon_ne_bar (s : Str) : s ++ ":" ≠ "|" := fun e => by
  have h := congrArg (fun x : Str => x.cps.toList) e
  simp only [cps_append, co_ch, bar_ch, ch_cps] at h
  cases hs : s.cps.toList with
  | nil => rw [hs] at h; simp at h
  | cons x xs => rw [hs] at h; simp at h
theorem lineS_free {l : Lock} (h1 : isWordS l.1 = true) (h2 : okKeys l.2.1 = true) (h3 : okKeys l.2.2 = true) : 10 ∉ (lineS l).cps.toList := by
  rw [line_join, join_cps]
  have key : ∀ l : List (List Nat), (∀ x ∈ l, 10 ∉ x) → 10 ∉ gl 32 l := by
    intro l
    induction l with
    | nil => intro _; simp [gl]
    | cons x r ih =>
      intro h
      cases r with
      | nil => exact h x (by simp)
      | cons y r =>
        have := ih fun z hz => h z (List.mem_cons_of_mem _ hz)
        show 10 ∉ x ++ 32 :: gl 32 (y :: r)
        simp only [List.mem_append, List.mem_cons, not_or]
        exact ⟨h x (by simp), by omega, this⟩
  refine key _ fun x hx => ?_
  obtain ⟨s, hs, rfl⟩ := List.mem_map.mp hx
  exact lineW_free h1 h2 h3 (by omega) (by omega) (by omega) s hs
theorem plant_split (ok : OkP p) : Txt.split (plantS p) "\n" = p.map lineS ++ [("" : Str)] := by
  have e : plantS p = Str.join (ch 10) (p.map lineS ++ [("" : Str)]) := by
    rw [join_lines, List.map_map]
    unfold plantS
    rw [nl_ch]
    rfl
  rw [e, nl_ch]
  refine split_join (by simp) fun x hx => ?_
  rcases List.mem_append.mp hx with hx | hx
  · obtain ⟨l, hl, rfl⟩ := List.mem_map.mp hx
    obtain ⟨h1, h2, h3⟩ := (okP_iff.mp ok).2.1 l hl
    exact lineS_free h1 h2 h3
  · rw [List.mem_singleton.mp hx, cps_nil]; simp
end
end TK.P
namespace TK.P
open PySem TK L2
section
variable {a b s : Str} {l : Lock} {c : Nat} {p : List Lock}
theorem Pu.compLB {α β : Type} {F : D → M (Option D)} {h : α → D} {l : List α} {k : List D → M β} {Q : β → Prop} (g : α → D) (hF : ∀ a ∈ l, F (h a) = Pure.pure (some (g a))) (hk : Pu (k (l.map g)) Q) : Pu (compL F (l.map h) >>= k) Q := by
  rw [compL_mapE g hF]; exact hk
theorem eqv_str (a b : Str) : PyData.eqv (.str a) (.str b) = decide (a = b) := by
  simp only [PyData.eqv]
  rw [Bool.eq_iff_iff]
  simp
theorem dep_strs (n : Nat) : ∀ l : List Str, (l.map PyData.str).all (dep n) = true := fun l => by
  rw [List.all_map]
  exact List.all_eq_true.mpr fun x _ => by cases n <;> rfl
theorem count_strs (l : List Str) (x : Str) : app2 .count (.list (l.map .str)) (.str x) = some (.int (l.filter fun y => decide (y = x)).length) := by
  show (if dep 60 (.str x) && (l.map PyData.str).all (dep 60) then some (PyData.int (((l.map PyData.str).filter fun y => PyData.eqv y (.str x)).length : Nat)) else none) = _
  rw [dep_strs, show dep 60 (.str x) = true from rfl, Bool.and_self, if_pos rfl, List.filter_map, List.length_map]
  rw [show ((fun y => PyData.eqv y (.str x)) ∘ PyData.str) = fun y => decide (y = x) from funext fun y => eqv_str y x]
theorem idx_strs (l m : List Str) (x : Str) (h : x ∉ l) : app2 .index (.list ((l ++ x :: m).map .str)) (.str x) = some (.int l.length) := by
  show (if dep 60 (.str x) && ((l ++ x :: m).map PyData.str).all (dep 60) then (idxOf (.str x) ((l ++ x :: m).map PyData.str)).map (fun (j : Nat) => PyData.int (j : Int)) else none) = _
  rw [dep_strs, show dep 60 (.str x) = true from rfl, Bool.and_self, if_pos rfl]
  have key : ∀ l : List Str, x ∉ l → idxOf (.str x) ((l ++ x :: m).map PyData.str) = some l.length := by
    intro l
    induction l with
    | nil =>
      intro _
      show (if PyData.eqv (.str x) (.str x) = true then some 0 else _) = _
      rw [eqv_str, if_pos (by simp)]
      rfl
    | cons y l ih =>
      intro h
      show (if PyData.eqv (.str y) (.str x) = true then some 0 else (idxOf (.str x) ((l ++ x :: m).map PyData.str)).map (· + 1)) = _
      rw [eqv_str, if_neg (by simp; exact fun e => h (by rw [e]; simp)), ih fun z => h (List.mem_cons_of_mem _ z)]
      rfl
  rw [key l h]
  rfl
theorem line_len' (h1 : isWordS l.1 = true) (h2 : okKeys l.2.1 = true) (h3 : okKeys l.2.2 = true) : (lineS l).length ≤ 67 := by
  have a := okKeys_iff.mp h2
  have b := okKeys_iff.mp h3
  have x := sp_len (fun k hk => word_len (a.2.1 k hk)) a.1
  have y := sp_len (fun k hk => word_len (b.2.1 k hk)) b.1
  have := word_len h1
  obtain ⟨c1, c2, _⟩ := len_c1
  unfold lineS
  rw [len_app, len_app, len_app, len_app]; omega
theorem cut_to_last (s : Str) (c : Nat) (h : s.length ≤ 1000) : slcD (.str (s ++ ch c)) none (some (-1)) = some (.str s) := by
  have hl : (s ++ ch c).length = s.length + 1 := by rw [len_app]; rfl
  show (if (s ++ ch c).length ≤ lim then some (PyData.str ⟨(cut (s ++ ch c).cps.toList none (some (-1))).toArray⟩) else none) = _
  rw [if_pos (by rw [hl, limv]; omega)]
  rw [cut_last, cps_append, ch_cps, List.length_append, List.length_singleton, Nat.add_sub_cancel, List.take_left]
theorem parse_lock_eq (h1 : isWordS l.1 = true) (h2 : okKeys l.2.1 = true) (h3 : okKeys l.2.2 = true) : f_parse_lock [.str (lineS l)] = pure (lockD l) := by
  have hl := line_len' h1 h2 h3
  have a := okKeys_iff.mp h2
  have b := okKeys_iff.mp h3
  have hsp : ((" " : Str).length == 0) = false := by decide +kernel
  have e1 : app2 .split (.str (lineS l)) (.str " ") = some (.list ((lineW l).map .str)) := by
    show (if ((" " : Str).length == 0) = false ∧ (lineS l).length + 2 ≤ lim then some (PyData.list ((Txt.split (lineS l) " ").map .str)) else none) = _
    rw [if_pos ⟨hsp, by rw [limv]; omega⟩, line_split h1 h2 h3]
  have nb1 : ("|" : Str) ∉ (l.1 ++ ":") :: l.2.1 := fun z => by
    rcases List.mem_cons.mp z with z | z
    · exact colon_ne_bar _ z.symm
    · exact word_ne_bar (a.2.1 _ z) rfl
  have nb2 : ("|" : Str) ∉ l.2.2 := fun z => word_ne_bar (b.2.1 _ z) rfl
  have hW : lineW l = ((l.1 ++ ":") :: l.2.1) ++ ("|" : Str) :: l.2.2 := rfl
  have e2 : app2 .count (.list ((lineW l).map .str)) (.str "|") = some (.int 1) := by
    have f1 : (((l.1 ++ ":") :: l.2.1).filter fun y => decide (y = ("|" : Str))) = [] := List.filter_eq_nil_iff.mpr fun x hx => by
      rw [decide_eq_true_eq]
      exact fun e => nb1 (by rw [← e]; exact hx)
    have f2 : (l.2.2.filter fun y => decide (y = ("|" : Str))) = [] := List.filter_eq_nil_iff.mpr fun x hx => by
      rw [decide_eq_true_eq]
      exact fun e => nb2 (by rw [← e]; exact hx)
    rw [count_strs, hW, List.filter_append, f1, List.filter_cons, f2, if_pos (by simp)]
    rfl
  have e3 := idx_strs ((l.1 ++ ":") :: l.2.1) l.2.2 "|" nb1
  rw [← hW] at e3
  have hlen : ((l.1 ++ ":") :: l.2.1).length = 1 + l.2.1.length := by simp; omega
  rw [hlen] at e3
  have e4 : app2 .ix (.list ((lineW l).map .str)) (.int 0) = some (.str (l.1 ++ ":")) := by
    unfold lineW
    exact atI_zero _ _
  have e5 : app2 .endsw (.str (l.1 ++ ":")) (.str ":") = some (.bool true) := by
    show some (PyData.bool (Txt.endswith (l.1 ++ ":") ":")) = _
    rw [co_ch, ends_ch]
  have e6 := cut_to_last l.1 58 (by have := word_len h1; omega)
  rw [← co_ch] at e6
  have e7 : slcD (.list ((lineW l).map .str)) (some 1) (some ((1 + l.2.1.length : Nat) : Int)) = some (.list (l.2.1.map .str)) := by
    show some (PyData.list (cut ((lineW l).map PyData.str) (some 1) (some ((1 + l.2.1.length : Nat) : Int)))) = _
    congr 2
    unfold cut
    rw [HT.sIx_nat, show (some (1 : Int)) = some ((1 : Nat) : Int) from rfl, HT.sIx_nat, List.length_map]
    have : (lineW l).length = 2 + l.2.1.length + l.2.2.length := by unfold lineW; simp; omega
    rw [this, Nat.min_eq_left (by omega), Nat.min_eq_left (by omega)]
    unfold lineW
    rw [List.map_cons, List.drop_succ_cons, List.drop_zero, List.map_append, show 1 + l.2.1.length - 1 = (l.2.1.map PyData.str).length by rw [List.length_map]; omega, List.take_left]
  have e8 : slcD (.list ((lineW l).map .str)) (some ((1 + l.2.1.length : Nat) + 1 : Int)) none = some (.list (l.2.2.map .str)) := by
    show some (PyData.list (cut ((lineW l).map PyData.str) (some ((1 + l.2.1.length : Nat) + 1 : Int)) none)) = _
    congr 2
    rw [show ((1 + l.2.1.length : Nat) + 1 : Int) = ((l.2.1.length + 2 : Nat) : Int) by omega, cut_lo]
    unfold lineW
    rw [List.map_cons, List.drop_succ_cons, List.map_append, List.map_cons, show l.2.1.length + 1 = (l.2.1.map PyData.str ++ [PyData.str "|"]).length by simp]
    rw [show l.2.1.map PyData.str ++ PyData.str "|" :: l.2.2.map PyData.str = (l.2.1.map PyData.str ++ [PyData.str "|"]) ++ l.2.2.map PyData.str by simp, List.drop_left]
  generalize (lineW l).map PyData.str = W at *
  generalize hk : (1 + l.2.1.length : Nat) = k at *
  unfold f_parse_lock
  rw [run_eq rfl]
  refine Pu.eq ?_
  (conv => arg 1; simp -dsimp -implicitDefEqProofs [limv, -List.getD_eq_getElem?_getD, List.getD_cons_zero, List.getD_cons_succ, -bind_assoc', -ex_asg, -ex_ite, -ex_unp, -ex_par, -ex_for, nxM_cons, ex_asgK, asgK_def, ex_iteK, iteK_t, iteK_f, ex_unpK, unpK_def, ex_parK, parK_cons, ex_forK, forK_def, forJ_def, b_parse_lock, e1, e2, e4, e5, e3, e6, e7, e8, isLst]; try simp only [bind_assoc'])
  exact .pure rfl
end
end TK.P
namespace TK.P
open PySem TK L2
section
variable {a b s : Str} {l : Lock} {c : Nat} {p : List Lock} {r : List Bool} {ns : List Int} {e : Nat}
theorem plantS_len (ok : OkP p) : (plantS p).length ≤ 600 := by
  have h8 := (okP_iff.mp ok).1.2
  obtain ⟨_, _, c3, _⟩ := len_c1
  unfold plantS
  rw [catS_len, List.map_map]
  have hs := sum_le (f := (fun x : Str => x.length) ∘ fun l : Lock => lineS l ++ "\n") (c := 68) (l := p) fun l hl => by
    show (lineS l ++ "\n").length ≤ 68
    rw [len_app]
    have := line_len ok hl
    omega
  omega
theorem parse_plant_eq (ok : OkP p) : f_parse_plant [.str (plantS p)] = pure (plantD p) := by
  have hl := plantS_len ok
  have hsp : (("\n" : Str).length == 0) = false := by decide +kernel
  have e1 : app2 .split (.str (plantS p)) (.str "\n") = some (.list ((p.map lineS ++ [("" : Str)]).map .str)) := by
    show (if (("\n" : Str).length == 0) = false ∧ (plantS p).length + 2 ≤ lim then some (PyData.list ((Txt.split (plantS p) "\n").map .str)) else none) = _
    rw [if_pos ⟨hsp, by rw [limv]; omega⟩, plant_split ok]
  have e2 : slcD (.list ((p.map lineS ++ [("" : Str)]).map .str)) none (some (-1)) = some (.list (p.map fun l => .str (lineS l))) := by
    show some (PyData.list (cut ((p.map lineS ++ [("" : Str)]).map PyData.str) none (some (-1)))) = _
    rw [cut_last, List.length_map, List.length_append, List.length_singleton, Nat.add_sub_cancel, List.map_append, show (p.map lineS).length = ((p.map lineS).map PyData.str).length by simp, List.take_left, List.map_map]
    rfl
  have e3 := is_plant_M (ok.nice 0)
  have e4 : isPlant (plantD p) = true := by rw [isPlant_D]; exact ok
  have e5 := plant_text_eq ok
  generalize hW : (p.map lineS ++ [("" : Str)]).map PyData.str = W at *
  have e6 : eqD (.str (plantS p)) (.str (plantS p)) = some true := by
    unfold eqD
    rw [show dep 60 (.str (plantS p)) = true from rfl, Bool.and_self, if_pos rfl, eqv_str]
    simp
  generalize plantS p = T at *
  unfold f_parse_plant
  rw [run_eq rfl]
  refine Pu.eq ?_
  (conv => arg 1; simp -dsimp -implicitDefEqProofs [limv, -List.getD_eq_getElem?_getD, List.getD_cons_zero, List.getD_cons_succ, -bind_assoc', -ex_asg, -ex_ite, -ex_unp, -ex_par, -ex_for, nxM_cons, ex_asgK, asgK_def, ex_iteK, iteK_t, iteK_f, ex_unpK, unpK_def, ex_parK, parK_cons, ex_forK, forK_def, forJ_def, b_parse_plant, e1, e2, typ]; try simp only [bind_assoc'])
  refine Pu.compLB (h := fun l : Lock => .str (lineS l)) lockD (fun l hl => ?_) ?_
  · obtain ⟨h1, h2, h3⟩ := (okP_iff.mp ok).2.1 l hl
    simp [compXF, parse_lock_eq h1 h2 h3]
  (conv => arg 1; simp -dsimp -implicitDefEqProofs [limv, -List.getD_eq_getElem?_getD, List.getD_cons_zero, List.getD_cons_succ, -bind_assoc', -ex_asg, -ex_ite, -ex_unp, -ex_par, -ex_for, nxM_cons, ex_asgK, asgK_def, ex_iteK, iteK_t, iteK_f, ex_unpK, unpK_def, ex_parK, parK_cons, ex_forK, forK_def, forJ_def]; try simp only [bind_assoc'])
  rw [show (PyData.tuple (p.map lockD)) = plantD p from rfl]
  (conv => arg 1; simp -dsimp -implicitDefEqProofs [limv, -List.getD_eq_getElem?_getD, List.getD_cons_zero, List.getD_cons_succ, -bind_assoc', -ex_asg, -ex_ite, -ex_unp, -ex_par, -ex_for, nxM_cons, ex_asgK, asgK_def, ex_iteK, iteK_t, iteK_f, ex_unpK, unpK_def, ex_parK, parK_cons, ex_forK, forK_def, forJ_def, e3, e4, e5, e6]; try simp only [bind_assoc'])
  exact .pure rfl
end
end TK.P
namespace TK.P
open PySem TK L2
end TK.P
namespace TK.P
open PySem TK L2
end TK.P
namespace TK.P
open PySem TK L2
end TK.P
namespace TK.P
open PySem TK L2
end TK.P
namespace TK.P
open PySem TK L2
end TK.P
namespace TK.P
open PySem TK L2
end TK.P
namespace TK.P
open PySem TK L2
section
variable {a b s t : Str} {l : Lock} {c : Nat} {p q : List Lock}
theorem split_bound (s : Str) (c : Nat) : (Txt.split s (ch c)).length ≤ s.length + 1 := by
  have := PyProof.Rows.split_weight s (ch c) (Nat.le_refl 1)
  omega
theorem split_parts {s x : Str} {c : Nat} (h : x ∈ Txt.split s (ch c)) : x.length ≤ s.length := PyProof.Rows.part_short h
theorem ends_inv {s : Str} {c : Nat} (h : Txt.endswith s (ch c) = true) : ∃ n, s = n ++ ch c := by
  unfold Txt.endswith at h
  rw [Bool.and_eq_true, decide_eq_true_eq] at h
  obtain ⟨h1, h2⟩ := h
  have h1 : 1 ≤ s.length := h1
  have h3 := (StrLaws.subAt_one s c (s.length - 1)).mp ⟨by show s.length - 1 + 1 ≤ s.length; omega, h2⟩
  refine ⟨⟨(s.cps.toList.take (s.length - 1)).toArray⟩, str_ext ?_⟩
  rw [cps_append, ch_cps]
  have e : (⟨(s.cps.toList.take (s.length - 1)).toArray⟩ : Str).cps.toList = s.cps.toList.take (s.length - 1) := by simp
  rw [e]
  have hl : s.cps.toList.length = s.length := by simp [Str.length]
  have h4 : s.cps.toList[s.length - 1]? = some c := by simpa using h3
  conv => lhs; rw [← List.take_append_drop (s.length - 1) s.cps.toList]
  congr 1
  rw [List.drop_eq_getElem?_toList_append, h4, List.drop_eq_nil_of_le (by omega)]
  rfl
theorem parse_lock_of (hs : s.length ≤ 1000) (e : Txt.split s " " = lineW l) (n1 : ("|" : Str) ∉ l.2.1) (n2 : ("|" : Str) ∉ l.2.2) : f_parse_lock [.str s] = pure (lockD l) := by
  have hsp : ((" " : Str).length == 0) = false := by decide +kernel
  have e1 : app2 .split (.str s) (.str " ") = some (.list ((lineW l).map .str)) := by
    show (if ((" " : Str).length == 0) = false ∧ s.length + 2 ≤ lim then some (PyData.list ((Txt.split s " ").map .str)) else none) = _
    rw [if_pos ⟨hsp, by rw [limv]; omega⟩, e]
  have nb1 : ("|" : Str) ∉ (l.1 ++ ":") :: l.2.1 := fun z => by
    rcases List.mem_cons.mp z with z | z
    · exact colon_ne_bar _ z.symm
    · exact n1 z
  have hW : lineW l = ((l.1 ++ ":") :: l.2.1) ++ ("|" : Str) :: l.2.2 := rfl
  have e2 : app2 .count (.list ((lineW l).map .str)) (.str "|") = some (.int 1) := by
    have f1 : (((l.1 ++ ":") :: l.2.1).filter fun y => decide (y = ("|" : Str))) = [] := List.filter_eq_nil_iff.mpr fun x hx => by
      rw [decide_eq_true_eq]
      exact fun e => nb1 (by rw [← e]; exact hx)
    have f2 : (l.2.2.filter fun y => decide (y = ("|" : Str))) = [] := List.filter_eq_nil_iff.mpr fun x hx => by
      rw [decide_eq_true_eq]
      exact fun e => n2 (by rw [← e]; exact hx)
    rw [count_strs, hW, List.filter_append, f1, List.filter_cons, f2, if_pos (by simp)]
    rfl
  have hx : l.1.length ≤ 1000 := by
    have h1 : (l.1 ++ ":") ∈ Txt.split s (ch 32) := by rw [← sp_ch, e]; exact List.mem_cons_self
    have := split_parts h1
    rw [len_app] at this
    omega
  have e3 := idx_strs ((l.1 ++ ":") :: l.2.1) l.2.2 "|" nb1
  rw [← hW] at e3
  have hlen : ((l.1 ++ ":") :: l.2.1).length = 1 + l.2.1.length := by simp; omega
  rw [hlen] at e3
  have e4 : app2 .ix (.list ((lineW l).map .str)) (.int 0) = some (.str (l.1 ++ ":")) := by
    unfold lineW
    exact atI_zero _ _
  have e5 : app2 .endsw (.str (l.1 ++ ":")) (.str ":") = some (.bool true) := by
    show some (PyData.bool (Txt.endswith (l.1 ++ ":") ":")) = _
    rw [co_ch, ends_ch]
  have e6 := cut_to_last l.1 58 hx
  rw [← co_ch] at e6
  have e7 : slcD (.list ((lineW l).map .str)) (some 1) (some ((1 + l.2.1.length : Nat) : Int)) = some (.list (l.2.1.map .str)) := by
    show some (PyData.list (cut ((lineW l).map PyData.str) (some 1) (some ((1 + l.2.1.length : Nat) : Int)))) = _
    congr 2
    unfold cut
    rw [HT.sIx_nat, show (some (1 : Int)) = some ((1 : Nat) : Int) from rfl, HT.sIx_nat, List.length_map]
    have : (lineW l).length = 2 + l.2.1.length + l.2.2.length := by unfold lineW; simp; omega
    rw [this, Nat.min_eq_left (by omega), Nat.min_eq_left (by omega)]
    unfold lineW
    rw [List.map_cons, List.drop_succ_cons, List.drop_zero, List.map_append, show 1 + l.2.1.length - 1 = (l.2.1.map PyData.str).length by rw [List.length_map]; omega, List.take_left]
  have e8 : slcD (.list ((lineW l).map .str)) (some ((1 + l.2.1.length : Nat) + 1 : Int)) none = some (.list (l.2.2.map .str)) := by
    show some (PyData.list (cut ((lineW l).map PyData.str) (some ((1 + l.2.1.length : Nat) + 1 : Int)) none)) = _
    congr 2
    rw [show ((1 + l.2.1.length : Nat) + 1 : Int) = ((l.2.1.length + 2 : Nat) : Int) by omega, cut_lo]
    unfold lineW
    rw [List.map_cons, List.drop_succ_cons, List.map_append, List.map_cons, show l.2.1.length + 1 = (l.2.1.map PyData.str ++ [PyData.str "|"]).length by simp]
    rw [show l.2.1.map PyData.str ++ PyData.str "|" :: l.2.2.map PyData.str = (l.2.1.map PyData.str ++ [PyData.str "|"]) ++ l.2.2.map PyData.str by simp, List.drop_left]
  generalize (lineW l).map PyData.str = W at *
  generalize hk : (1 + l.2.1.length : Nat) = k at *
  unfold f_parse_lock
  rw [run_eq rfl]
  refine Pu.eq ?_
  (conv => arg 1; simp -dsimp -implicitDefEqProofs [limv, -List.getD_eq_getElem?_getD, List.getD_cons_zero, List.getD_cons_succ, -bind_assoc', -ex_asg, -ex_ite, -ex_unp, -ex_par, -ex_for, nxM_cons, ex_asgK, asgK_def, ex_iteK, iteK_t, iteK_f, ex_unpK, unpK_def, ex_parK, parK_cons, ex_forK, forK_def, forJ_def, b_parse_lock, e1, e2, e4, e5, e3, e6, e7, e8, isLst]; try simp only [bind_assoc'])
  exact .pure rfl
/-- any line -/
theorem parse_lock_all (hs : s.length ≤ 1000) : f_parse_lock [.str s] = throwX "ParseError" ∨ ∃ l : Lock, f_parse_lock [.str s] = pure (lockD l) ∧ Txt.split s " " = lineW l := by
  have hsp : ((" " : Str).length == 0) = false := by decide +kernel
  have e1 : app2 .split (.str s) (.str " ") = some (.list ((Txt.split s " ").map .str)) := by
    show (if ((" " : Str).length == 0) = false ∧ s.length + 2 ≤ lim then some (PyData.list ((Txt.split s " ").map .str)) else none) = _
    rw [if_pos ⟨hsp, by rw [limv]; omega⟩]
  have e2 := count_strs (Txt.split s " ") "|"
  have hne : Txt.split s " " ≠ [] := by rw [sp_ch]; exact split_ne _ _
  cases hw : Txt.split s " " with
  | nil => exact absurd hw hne
  | cons w0 W =>
    rw [hw] at e1 e2
    have e4 : app2 .ix (.list ((w0 :: W).map .str)) (.int 0) = some (.str w0) := atI_zero _ _
    have e5 : app2 .endsw (.str w0) (.str ":") = some (.bool (Txt.endswith w0 ":")) := rfl
    by_cases hc : ((w0 :: W).filter fun y => decide (y = ("|" : Str))).length = 1
    · cases he : Txt.endswith w0 ":" with
      | false =>
        left
        rw [hc] at e2
        rw [he] at e5
        have e2 : app2 .count (.list ((w0 :: W).map .str)) (.str "|") = some (.int 1) := e2
        generalize (w0 :: W).map PyData.str = V at *
        unfold f_parse_lock
        rw [run_eq rfl]
        simp [b_parse_lock, e1, e2, e4, e5]
      | true =>
        right
        rw [co_ch] at he
        obtain ⟨n, hn⟩ := ends_inv he
        have hnb : w0 ≠ "|" := fun z => by rw [hn, ← co_ch] at z; exact colon_ne_bar _ z
        rw [List.filter_cons, if_neg (by simpa using hnb)] at hc
        obtain ⟨x, hx⟩ := List.length_eq_one_iff.mp hc
        have hm : ("|" : Str) ∈ W := by
          have : x ∈ W.filter fun y => decide (y = ("|" : Str)) := by rw [hx]; simp
          rw [List.mem_filter, decide_eq_true_eq] at this
          rw [← this.2]; exact this.1
        obtain ⟨A, B, hAB⟩ := List.append_of_mem hm
        rw [hAB, List.filter_append, List.filter_cons, if_pos (by simp), List.length_append, List.length_cons] at hc
        have hA : ("|" : Str) ∉ A := fun z => by
          have : ("|" : Str) ∈ A.filter fun y => decide (y = ("|" : Str)) := List.mem_filter.mpr ⟨z, by simp⟩
          have := List.length_pos_of_mem this
          omega
        have hB : ("|" : Str) ∉ B := fun z => by
          have : ("|" : Str) ∈ B.filter fun y => decide (y = ("|" : Str)) := List.mem_filter.mpr ⟨z, by simp⟩
          have := List.length_pos_of_mem this
          omega
        have hl : Txt.split s " " = lineW (n, A, B) := by
          rw [hw, hAB, hn, ← co_ch]; rfl
        exact ⟨(n, A, B), parse_lock_of hs hl hA hB, by rw [← hw]; exact hl⟩
    · left
      generalize ((w0 :: W).filter fun y => decide (y = ("|" : Str))).length = k at *
      have hk : ¬ (k : Int) = 1 := by omega
      generalize (w0 :: W).map PyData.str = V at *
      unfold f_parse_lock
      rw [run_eq rfl]
      simp [b_parse_lock, e1, e2, hk]
end
end TK.P
namespace TK.P
open PySem TK L2
section
variable {a b s t : Str} {l : Lock} {c : Nat} {p q : List Lock} {r : List Bool}
theorem nice_lockW (hs : s.length ≤ 990) (e : Txt.split s " " = lineW l) (n : Nat) : nice (n + 2) (lockD l) = true := by
  have hb := split_bound s 32
  have hp : ∀ x ∈ lineW l, x.length ≤ 990 := fun x hx => by
    rw [← e, sp_ch] at hx
    have := split_parts hx
    omega
  rw [← sp_ch, e] at hb
  have hlen : (lineW l).length = 2 + l.2.1.length + l.2.2.length := by unfold lineW; simp; omega
  have hk : ∀ ks : List Str, (∀ k ∈ ks, k.length ≤ 990) → ks.length ≤ 1000 → nice (n + 1) (.tuple (ks.map .str)) = true := fun ks h2 h3 => by
    simp only [nice, Bool.and_eq_true, decide_eq_true_eq, List.all_eq_true, List.length_map]
    refine ⟨by omega, fun z hz => ?_⟩
    obtain ⟨k, hk, rfl⟩ := List.mem_map.mp hz
    have := h2 k hk
    simp [nice]; omega
  have x1 := hk l.2.1 (fun k hk => hp k (by unfold lineW; simp [hk])) (by omega)
  have x2 := hk l.2.2 (fun k hk => hp k (by unfold lineW; simp [hk])) (by omega)
  have x0 : nice (n + 1) (.str l.1) = true := by
    have := hp (l.1 ++ ":") (by unfold lineW; simp)
    rw [len_app] at this
    simp [nice]; omega
  unfold lockD
  show (decide ([PyData.str l.1, .tuple (l.2.1.map .str), .tuple (l.2.2.map .str)].length ≤ 1000) && [PyData.str l.1, .tuple (l.2.1.map .str), .tuple (l.2.2.map .str)].all (nice (n + 1))) = true
  rw [List.all_cons, List.all_cons, List.all_cons, x0, x1, x2]; rfl
theorem compL_cons (F : D → M (Option D)) (d : D) (r : List D) : compL F (d :: r) = (F d >>= fun o => compL F r >>= fun rest => pure (match o with | some x => x :: rest | none => rest)) := rfl
theorem lines_all {F : D → M (Option D)} (hF : ∀ s : Str, F (.str s) = (f_parse_lock [.str s] >>= fun x => pure (some x))) : ∀ ls : List Str, (∀ s ∈ ls, s.length ≤ 990) →
    compL F (ls.map .str) = throwX "ParseError" ∨ ∃ q : List Lock, compL F (ls.map .str) = pure (q.map lockD) ∧ (ls.map fun s => Txt.split s " ") = q.map lineW
  | [], _ => .inr ⟨[], rfl, rfl⟩
  | s :: ls, h => by
    rw [List.map_cons, compL_cons, hF]
    rcases parse_lock_all (s := s) (by have := h s (by simp); omega) with e | ⟨l, e, el⟩
    · left
      rw [e]; rfl
    · rw [e, pure_bind', pure_bind']
      rcases lines_all hF ls (fun x hx => h x (List.mem_cons_of_mem _ hx)) with e2 | ⟨q, e2, eq⟩
      · left
        rw [e2]; rfl
      · right
        rw [e2, pure_bind']
        exact ⟨l :: q, rfl, by rw [List.map_cons, List.map_cons, el, eq]⟩
theorem app2_split {s : Str} {c : Nat} {k : Str} (hk : k = ch c) (hs : s.length ≤ 1000) : app2 .split (.str s) (.str k) = some (.list ((Txt.split s k).map .str)) := by
  have hsp : (k.length == 0) = false := by rw [hk]; rfl
  show (if (k.length == 0) = false ∧ s.length + 2 ≤ lim then some (PyData.list ((Txt.split s k).map .str)) else none) = _
  rw [if_pos ⟨hsp, by rw [limv]; omega⟩]
theorem drop_last_str (L : List Str) : slcD (.list (L.map .str)) none (some (-1)) = some (.list ((L.take (L.length - 1)).map .str)) := by
  show some (PyData.list (cut (L.map PyData.str) none (some (-1)))) = _
  rw [cut_last, List.length_map, List.map_take]
theorem eqD_strS (a b : Str) : eqD (.str a) (.str b) = some (decide (a = b)) := by
  unfold eqD
  rw [show (dep 60 (.str a) && dep 60 (.str b)) = true from rfl, if_pos rfl, eqv_str]
theorem parse_plant_all (ht : t.length ≤ 990) : f_parse_plant [.str t] = throwX "ParseError" ∨ ∃ q, OkP q ∧ plantS q = t := by
  have e1 := app2_split nl_ch (s := t) (by omega)
  have e2 := drop_last_str (Txt.split t "\n")
  have hlen : ∀ s ∈ (Txt.split t "\n").take ((Txt.split t "\n").length - 1), s.length ≤ 990 := fun s hs => by
    have := List.mem_of_mem_take hs
    rw [nl_ch] at this
    have := split_parts this
    omega
  have hcnt : ((Txt.split t "\n").take ((Txt.split t "\n").length - 1)).length ≤ 990 := by
    have := split_bound t 10
    rw [← nl_ch] at this
    rw [List.length_take]; omega
  generalize (Txt.split t "\n").take ((Txt.split t "\n").length - 1) = ls at *
  generalize (Txt.split t "\n").map PyData.str = W at *
  have hq : ∀ out : List D, True := fun _ => trivial
  unfold f_parse_plant
  rw [run_eq rfl]
  simp [b_parse_plant, e1, e2]
  rcases lines_all (F := compXF [f_parse_lock, f_is_plant, f_plant_text] [Slot.val (PyData.str t), Slot.no, Slot.no] [2] (Tg.n 2) [] (TK.E.call 0 [TK.E.var 2])) (fun s => by simp [compXF]) ls hlen with e | ⟨q, e, hqs⟩
  · left
    rw [e]; rfl
  · rw [e, pure_bind']
    have hn : nice 3 (.tuple (q.map lockD)) = true := by
      have hl : q.length = ls.length := by have := congrArg List.length hqs; simpa using this.symm
      simp only [nice, Bool.and_eq_true, decide_eq_true_eq, List.all_eq_true, List.length_map]
      refine ⟨by omega, fun z hz => ?_⟩
      obtain ⟨l, hl, rfl⟩ := List.mem_map.mp hz
      obtain ⟨i, hi, rfl⟩ := List.getElem_of_mem hl
      have h1 : (ls.map fun s => Txt.split s " ")[i]? = (q.map lineW)[i]? := by rw [hqs]
      rw [List.getElem?_map, List.getElem?_map, List.getElem?_eq_getElem hi, List.getElem?_eq_getElem (by omega)] at h1
      exact nice_lockW (hlen _ (List.getElem_mem _)) (Option.some.inj h1) 0
    rw [is_plant_M hn, show isPlant (.tuple (q.map lockD)) = okPlant q from isPlant_D q]
    cases ho : okPlant q with
    | false => left; rfl
    | true =>
      have ok : OkP q := ho
      have e5 : f_plant_text [.tuple (q.map lockD)] = pure (.str (plantS q)) := plant_text_eq ok
      by_cases h : plantS q = t
      · exact .inr ⟨q, ok, h⟩
      · left
        simp [e5, eqD_strS, h]
def wordsB (t : Str) : List Bool := (Txt.split t " ").map fun w => Txt.endswith w "1"
theorem parse_state_all (ok : OkP p) (ht : t.length ≤ 990) : f_parse_state [plantD p, .str t] = if (isSt p (rowD (wordsB t)) && decide (stateS p (wordsB t) = t)) = true then pure (rowD (wordsB t)) else throwX "ParseError" := by
  have e1 := app2_split sp_ch (s := t) (by omega)
  have hb := split_bound t 32
  rw [← sp_ch] at hb
  have hn : nice 1 (rowD (wordsB t)) = true := nice_row _ (by unfold wordsB; rw [List.length_map]; omega) 0
  have e3 := valid_eq ok.sized hn
  have e4 : isSt p (rowD (wordsB t)) = true ↔ IsS p (wordsB t) := isS_iff
  have hw : rowD (wordsB t) = .tuple ((Txt.split t " ").map fun w => bD (Txt.endswith w "1")) := by
    unfold wordsB rowD
    rw [List.map_map]; rfl
  have e5 : noX (compL (compF [f_require_plant, f_is_valid_state, f_state_text] [Slot.val (plantD p), Slot.val (PyData.str t), Slot.no, Slot.no] [3] (Tg.n 3) [] (TK.E.op1 .int (TK.E.op2 .endsw (TK.E.var 3) (TK.E.con (.str "1"))))) ((Txt.split t " ").map .str)) = pure ((Txt.split t " ").map fun w => bD (Txt.endswith w "1")) := by
    refine comp_map (h := PyData.str) (fun w => bD (Txt.endswith w "1")) fun w _ => ?_
    have : app2 .endsw (.str w) (.str "1") = some (.bool (Txt.endswith w "1")) := rfl
    generalize Txt.endswith w "1" = b at *
    simp [compF, this]
    cases b <;> rfl
  unfold f_parse_state
  rw [run_eq rfl]
  simp [b_parse_state, require_plant_ok ok, e1, e5]
  rw [← hw, e3]
  cases hs : isSt p (rowD (wordsB t)) with
  | false => rfl
  | true =>
    have hl : (wordsB t).length = p.length := (e4.mp hs).len
    have e6 := state_text_eq ok hl
    by_cases h : stateS p (wordsB t) = t
    · simp [e6, eqD_strS, h]
    · simp [e6, eqD_strS, h]
end
end TK.P
namespace TK.P
open PySem TK L2
section
variable {a b s t : Str} {l m : Lock} {c : Nat} {p q : List Lock} {r : List Bool} {L : List Str}
/-- lines of a plant -/
def PLines (q : List Lock) : List Str := q.map lineS ++ [("" : Str)]
theorem plantS_join (p : List Lock) : plantS p = Str.join (ch 10) (PLines p) := by
  unfold PLines
  rw [join_lines, List.map_map]
  unfold plantS
  rw [nl_ch]
  rfl
theorem lineS_free' (ok : OkP p) (hl : l ∈ p) : 10 ∉ (lineS l).cps.toList := by
  obtain ⟨h1, h2, h3⟩ := (okP_iff.mp ok).2.1 l hl
  exact lineS_free h1 h2 h3
theorem lineS_ne (l : Lock) : lineS l ≠ "" := fun h => by
  have := congrArg Str.length h
  unfold lineS at this
  rw [len_app, len_app, len_app, len_app, len_c1.1, len_c1.2.1] at this
  have h0 : ("" : Str).length = 0 := rfl
  omega
theorem plines_free (ok : OkP p) : ∀ x ∈ PLines p, 10 ∉ x.cps.toList := fun x hx => by
  rcases List.mem_append.mp hx with hx | hx
  · obtain ⟨l, hl, rfl⟩ := List.mem_map.mp hx
    exact lineS_free' ok hl
  · rw [List.mem_singleton.mp hx, cps_nil]; simp
/-- a text of other lines is no plant's -/
theorem not_plant (ok : OkP q) (hL : L ≠ []) (hf : ∀ x ∈ L, 10 ∉ x.cps.toList) (h : plantS q = Str.join (ch 10) L) : PLines q = L := by
  rw [plantS_join] at h
  exact join_inj (by simp [PLines]) hL (plines_free ok) hf h
theorem ok_pos (ok : OkP p) : p ≠ [] := fun h => by
  have := (okP_iff.mp ok).1.1
  rw [h] at this; simp at this
theorem plines_ne (ok : OkP q) (h : PLines q = [("" : Str)]) : False := by
  unfold PLines at h
  have := congrArg List.length h
  have h1 := (okP_iff.mp ok).1.1
  simp at this
  rw [this] at h1; simp at h1
theorem no_empty {l : List Lock} (h : ("" : Str) ∈ l.map lineS) : False := by
  obtain ⟨x, _, hx⟩ := List.mem_map.mp h
  exact lineS_ne x hx
theorem np_nil (ok : OkP q) : plantS q ≠ "" := fun h => plines_ne ok (not_plant ok (L := [""]) (by simp) (fun x hx => by rw [List.mem_singleton.mp hx, cps_nil]; simp) h)
/-- without the last sign -/
def cutT (p : List Lock) : Str := Str.join (ch 10) (p.map lineS)
theorem plantS_cut (ok : OkP p) : plantS p = cutT p ++ ch 10 := by
  rw [plantS_join]
  unfold PLines cutT
  rw [join_snoc _ _ _ (by simpa using ok_pos ok), app_nil]
theorem lines_free (ok : OkP p) : ∀ x ∈ p.map lineS, 10 ∉ x.cps.toList := fun x hx => plines_free ok x (List.mem_append_left _ hx)
theorem np_cut (ok : OkP p) (oq : OkP q) : plantS q ≠ cutT p := fun h => by
  have e := not_plant oq (L := p.map lineS) (by simpa using ok_pos ok) (lines_free ok) h
  exact no_empty (l := p) (by rw [← e]; unfold PLines; simp)
theorem np_more (ok : OkP p) (oq : OkP q) : plantS q ≠ plantS p ++ "\n" := fun h => by
  have e1 : plantS p ++ "\n" = Str.join (ch 10) (PLines p ++ [("" : Str)]) := by
    rw [join_snoc _ _ _ (by simp [PLines]), app_nil, plantS_join, nl_ch]
  rw [e1] at h
  have e := not_plant oq (by simp) (fun x hx => by
    rcases List.mem_append.mp hx with hx | hx
    · exact plines_free ok x hx
    · rw [List.mem_singleton.mp hx, cps_nil]; simp) h
  unfold PLines at e
  have e := List.append_cancel_right e
  exact no_empty (l := q) (by rw [e]; simp)
theorem np_front (ok : OkP p) (oq : OkP q) : plantS q ≠ "\n" ++ plantS p := fun h => by
  have e1 : "\n" ++ plantS p = Str.join (ch 10) (("" : Str) :: PLines p) := by
    rw [plantS_join]
    have : PLines p ≠ [] := by simp [PLines]
    cases hL : PLines p with
    | nil => exact absurd hL this
    | cons x r =>
      show _ = "" ++ ch 10 ++ Str.join (ch 10) (x :: r)
      rw [nil_app, nl_ch]
  rw [e1] at h
  have e := not_plant oq (by simp) (fun x hx => by
    rcases List.mem_cons.mp hx with rfl | hx
    · rw [cps_nil]; simp
    · exact plines_free ok x hx) h
  unfold PLines at e
  cases q with
  | nil => exact ok_pos oq rfl
  | cons l q =>
    simp only [List.map_cons, List.cons_append, List.cons.injEq] at e
    exact lineS_ne l e.1
theorem np_blank (ok : OkP p) (oq : OkP q) : plantS q ≠ " " ++ plantS p := fun h => by
  cases p with
  | nil => exact ok_pos ok rfl
  | cons l p =>
    have e1 : " " ++ plantS (l :: p) = Str.join (ch 10) ((" " ++ lineS l) :: PLines p) := by
      rw [plantS_join]
      show " " ++ Str.join (ch 10) (lineS l :: PLines p) = _
      have : PLines p ≠ [] := by simp [PLines]
      cases hL : PLines p with
      | nil => exact absurd hL this
      | cons x r =>
        show " " ++ (lineS l ++ ch 10 ++ Str.join (ch 10) (x :: r)) = " " ++ lineS l ++ ch 10 ++ Str.join (ch 10) (x :: r)
        simp only [app_assoc]
    rw [e1] at h
    have hfr : ∀ x ∈ PLines p, 10 ∉ x.cps.toList := fun x hx => plines_free ok x (by
      show x ∈ lineS l :: PLines p
      exact List.mem_cons_of_mem _ hx)
    have e := not_plant oq (by simp) (fun x hx => by
      rcases List.mem_cons.mp hx with rfl | hx
      · rw [cps_append, List.mem_append, sp_ch, ch_cps, List.mem_singleton]
        rintro (h | h)
        · omega
        · exact lineS_free' ok (by simp) h
      · exact hfr x hx) h
    cases q with
    | nil => exact ok_pos oq rfl
    | cons m q =>
      have e : lineS m :: PLines q = _ := e
      have e2 := (List.cons.inj e).1
      obtain ⟨h1, _⟩ := (okP_iff.mp oq).2.1 m (by simp)
      have h3 := congrArg (fun x : Str => x.cps.toList) e2
      unfold lineS at h3
      simp only [cps_append, sp_ch, ch_cps] at h3
      have hpos : m.1.cps.toList ≠ [] := fun z => by
        simp only [isWordS, Bool.and_eq_true, decide_eq_true_eq] at h1
        have : m.1.length = 0 := by have := congrArg List.length z; simpa [Str.length] using this
        omega
      cases hm : m.1.cps.toList with
      | nil => exact hpos hm
      | cons x xs =>
        rw [hm] at h3
        simp only [List.cons_append, List.nil_append, List.cons.injEq] at h3
        have h4 := word_no h1 (c := 32) (by omega)
        rw [hm, ← h3.1] at h4
        exact h4 (by simp)
theorem lineS_name (ok : OkP p) (oq : OkP q) (hl : l ∈ p) (hm : m ∈ q) (h : lineS l = lineS m) : l.1 = m.1 := by
  obtain ⟨h1, h2, h3⟩ := (okP_iff.mp ok).2.1 l hl
  obtain ⟨g1, g2, g3⟩ := (okP_iff.mp oq).2.1 m hm
  have e := line_split h1 h2 h3
  rw [h, line_split g1 g2 g3] at e
  have e := (List.cons.inj e).1
  have e := congrArg (fun x : Str => x.cps.toList) e
  simp only [cps_append] at e
  exact (str_ext (List.append_cancel_right e)).symm
theorem np_twice (ok : OkP p) (oq : OkP q) : plantS q ≠ plantS p ++ plantS p := fun h => by
  have e1 : plantS p ++ plantS p = Str.join (ch 10) (p.map lineS ++ PLines p) := by
    have : plantS p ++ plantS p = plantS (p ++ p) := by unfold plantS; rw [List.map_append, catS_app]
    rw [this, plantS_join]
    unfold PLines
    rw [List.map_append, List.append_assoc]
  rw [e1] at h
  have e := not_plant oq (by simp [PLines]) (fun x hx => by
    rcases List.mem_append.mp hx with hx | hx
    · exact lines_free ok x hx
    · exact plines_free ok x hx) h
  unfold PLines at e
  rw [← List.append_assoc] at e
  have e := List.append_cancel_right e
  have hp := (okP_iff.mp ok).1.1
  have hlen : q.length = p.length + p.length := by have := congrArg List.length e; simpa using this
  have hget : ∀ i j (hi : i < q.length) (hj : j < p.length), (p.map lineS ++ p.map lineS)[i]? = some (lineS p[j]) → q[i].1 = p[j].1 := fun i j hi hj h => by
    rw [← e, List.getElem?_map, List.getElem?_eq_getElem hi] at h
    exact lineS_name oq ok (List.getElem_mem hi) (List.getElem_mem hj) (Option.some.inj h)
  have h1 := hget 0 0 (by omega) (by omega) (by rw [List.getElem?_append_left (by simp; omega), List.getElem?_map, List.getElem?_eq_getElem (by omega)]; rfl)
  have h2 := hget p.length 0 (by omega) (by omega) (by rw [List.getElem?_append_right (by simp), List.getElem?_map, List.length_map, Nat.sub_self, List.getElem?_eq_getElem (by omega)]; rfl)
  have nd := asc_nodup (okP_iff.mp oq).2.2
  have hpw := List.pairwise_iff_getElem.mp nd 0 p.length (by simp; omega) (by simp; omega) (by omega)
  rw [List.getElem_map, List.getElem_map] at hpw
  exact hpw (h1.trans h2.symm)
theorem one_line (oq : OkP q) {L : List Str} (hL : ∀ x ∈ L, 10 ∉ x.cps.toList) (hne : L ≠ []) (h : plantS q = Str.join (ch 10) L) {w : Str} (hw : L = [w, ""]) : ∃ l, (isWordS l.1 = true ∧ okKeys l.2.1 = true ∧ okKeys l.2.2 = true) ∧ lineW l = Txt.split w " " := by
  have e := not_plant oq hne hL h
  rw [hw] at e
  cases q with
  | nil => exact absurd rfl (ok_pos oq)
  | cons l q =>
    have e : lineS l :: PLines q = _ := e
    have e2 := (List.cons.inj e).1
    obtain ⟨h1, h2, h3⟩ := (okP_iff.mp oq).2.1 l (by simp)
    exact ⟨l, ⟨h1, h2, h3⟩, by rw [← e2, line_split h1 h2 h3]⟩
theorem free_by {L : List Str} {c : Nat} (h : L.all (fun x => !x.cps.toList.contains c) = true) : ∀ x ∈ L, c ∉ x.cps.toList := fun x hx z => by
  have := List.all_eq_true.mp h x hx
  rw [List.contains_iff_mem.mpr z] at this
  cases this
theorem split_by {w : Str} {W : List Str} (hW : W ≠ []) (h : W.all (fun x => !x.cps.toList.contains 32) = true) (e : w = Str.join (ch 32) W) : Txt.split w " " = W := by
  rw [e, sp_ch]
  exact split_join hW (free_by h)
theorem np_w1 (oq : OkP q) : plantS q ≠ "a:\n" := fun h => by
  obtain ⟨l, _, e⟩ := one_line oq (L := ["a:", ""]) (free_by (by decide +kernel)) (by simp) (h.trans (by decide +kernel)) rfl
  rw [split_by (W := ["a:"]) (by simp) (by decide +kernel) (by decide +kernel)] at e
  have := congrArg List.length e
  unfold lineW at this
  simp at this
theorem np_w2 (oq : OkP q) : plantS q ≠ "a: | |\n" := fun h => by
  obtain ⟨l, ⟨h1, h2, h3⟩, e⟩ := one_line oq (L := ["a: | |", ""]) (free_by (by decide +kernel)) (by simp) (h.trans (by decide +kernel)) rfl
  rw [split_by (W := ["a:", "|", "|"]) (by simp) (by decide +kernel) (by decide +kernel)] at e
  have e := (List.cons.inj e).2
  cases ha : l.2.1 with
  | nil =>
    rw [ha] at e
    have e := (List.cons.inj e).2
    exact word_ne_bar ((okKeys_iff.mp h3).2.1 "|" (by rw [e]; simp)) rfl
  | cons x xs =>
    rw [ha] at e
    have e := (List.cons.inj e).1
    exact word_ne_bar ((okKeys_iff.mp h2).2.1 "|" (by rw [ha, ← e]; simp)) rfl
theorem np_w3 (oq : OkP q) : plantS q ≠ "a |\n" := fun h => by
  obtain ⟨l, ⟨h1, h2, h3⟩, e⟩ := one_line oq (L := ["a |", ""]) (free_by (by decide +kernel)) (by simp) (h.trans (by decide +kernel)) rfl
  rw [split_by (W := ["a", "|"]) (by simp) (by decide +kernel) (by decide +kernel)] at e
  have e := (List.cons.inj e).1
  have e := congrArg (fun x : Str => x.cps.toList) e
  simp only [cps_append, co_ch, ch_cps] at e
  have ea : ("a" : Str).cps.toList = [97] := by decide +kernel
  rw [ea] at e
  cases hx : l.1.cps.toList with
  | nil => rw [hx] at e; simp at e
  | cons x xs => rw [hx] at e; simp at e
theorem np_w4 (oq : OkP q) : plantS q ≠ "a: k k |\n" := fun h => by
  obtain ⟨l, ⟨h1, h2, h3⟩, e⟩ := one_line oq (L := ["a: k k |", ""]) (free_by (by decide +kernel)) (by simp) (h.trans (by decide +kernel)) rfl
  rw [split_by (W := ["a:", "k", "k", "|"]) (by simp) (by decide +kernel) (by decide +kernel)] at e
  have e := (List.cons.inj e).2
  have hkb : ("k" : Str) ≠ "|" := by decide +kernel
  cases ha : l.2.1 with
  | nil =>
    rw [ha] at e
    exact hkb (List.cons.inj e).1.symm
  | cons x xs =>
    rw [ha] at e
    obtain ⟨ex, e⟩ := List.cons.inj e
    have e : xs ++ ("|" : Str) :: l.2.2 = [("k" : Str), "|"] := e
    cases hb : xs with
    | nil =>
      rw [hb] at e
      exact hkb (List.cons.inj e).1.symm
    | cons y ys =>
      rw [hb] at e
      obtain ⟨ey, e⟩ := List.cons.inj e
      have nd := asc_nodup (okKeys_iff.mp h2).2.2
      rw [ha, hb, ex, ey] at nd
      simp at nd
end
end TK.P
namespace TK.P
open PySem TK L2 StrLaws
section
variable {a b c x y : Nat} {u v w l m z : List Nat}
/-- a, b side by side -/
def adj (a b : Nat) : List Nat → Bool
  | x :: y :: r => (x == a && y == b) || adj a b (y :: r)
  | _ => false
theorem adj_app : ∀ {u v : List Nat}, adj a b u = false → adj a b v = false → u.getLast? ≠ some a → adj a b (u ++ v) = false
  | [], _, _, h, _ => h
  | [x], [], _, _, _ => rfl
  | [x], y :: r, _, h, hl => by
    show ((x == a && y == b) || adj a b (y :: r)) = false
    rw [h, Bool.or_false]
    have : (x == a) = false := beq_eq_false_iff_ne.mpr fun e => hl (by rw [e]; rfl)
    rw [this]; rfl
  | x :: y :: r, v, h, hv, hl => by
    have h : ((x == a && y == b) || adj a b (y :: r)) = false := h
    rw [Bool.or_eq_false_iff] at h
    show ((x == a && y == b) || adj a b (y :: r ++ v)) = false
    rw [h.1, adj_app (u := y :: r) h.2 hv (by simpa using hl)]
    rfl
theorem adj_left : ∀ {u v : List Nat}, adj a b u = true → adj a b (u ++ v) = true
  | [], _, h => by cases h
  | [x], _, h => by cases h
  | x :: y :: r, v, h => by
    have h : ((x == a && y == b) || adj a b (y :: r)) = true := h
    show ((x == a && y == b) || adj a b (y :: r ++ v)) = true
    rw [Bool.or_eq_true] at h ⊢
    exact h.imp id fun h => adj_left (u := y :: r) h
theorem adj_cons (h : adj a b v = true) : adj a b (x :: v) = true := by
  cases v with
  | nil => cases h
  | cons y r =>
    show ((x == a && y == b) || adj a b (y :: r)) = true
    rw [h, Bool.or_true]
theorem adj_right : ∀ {u v : List Nat}, adj a b v = true → adj a b (u ++ v) = true
  | [], _, h => h
  | x :: u, v, h => adj_cons (adj_right (u := u) h)
theorem adj_free : ∀ {l : List Nat}, a ∉ l → adj a b l = false
  | [], _ => rfl
  | [x], _ => rfl
  | x :: y :: r, h => by
    show ((x == a && y == b) || adj a b (y :: r)) = false
    rw [adj_free (l := y :: r) fun z => h (List.mem_cons_of_mem _ z)]
    have : (x == a) = false := beq_eq_false_iff_ne.mpr fun e => h (by rw [e]; simp)
    rw [this]; rfl
theorem repl_head (h : (replL [32, 124] [124] l).head? = some 124) : l.head? = some 124 ∨ ∃ r, l = 32 :: 124 :: r := by
  cases l with
  | nil => rw [replL_nil] at h; cases h
  | cons c r =>
    by_cases hc : (c :: r).take [32, 124].length = [32, 124]
    · right
      cases r with
      | nil => simp at hc
      | cons d s =>
        simp at hc
        exact ⟨s, by rw [hc.1, hc.2]⟩
    · rw [replL_miss hc] at h
      exact .inl h
theorem repl_no : ∀ (n : Nat) (l : List Nat), l.length ≤ n → adj 32 32 l = false → adj 32 124 (replL [32, 124] [124] l) = false
  | _, [], _, _ => by rw [replL_nil]; rfl
  | 0, c :: r, h, _ => by simp at h
  | n + 1, c :: r, h, ha => by
    by_cases hc : (c :: r).take [32, 124].length = [32, 124]
    · rw [replL_hit (by simp) hc]
      have hd : adj 32 32 ((c :: r).drop 2) = false := by
        cases r with
        | nil => rfl
        | cons d s =>
          have h1 : ((c == 32 && d == 32) || adj 32 32 (d :: s)) = false := ha
          rw [Bool.or_eq_false_iff] at h1
          cases s with
          | nil => rfl
          | cons e s =>
            have h2 : ((d == 32 && e == 32) || adj 32 32 (e :: s)) = false := h1.2
            rw [Bool.or_eq_false_iff] at h2
            exact h2.2
      have ih := repl_no n ((c :: r).drop 2) (by simp at h ⊢; omega) hd
      exact adj_app (u := [124]) rfl ih (by simp)
    · rw [replL_miss hc]
      have hr : adj 32 32 r = false := by
        cases r with
        | nil => rfl
        | cons d s =>
          have h1 : ((c == 32 && d == 32) || adj 32 32 (d :: s)) = false := ha
          rw [Bool.or_eq_false_iff] at h1
          exact h1.2
      have ih := repl_no n r (by simp at h; omega) hr
      cases hx : replL [32, 124] [124] r with
      | nil => rfl
      | cons d s =>
        rw [hx] at ih
        show ((c == 32 && d == 124) || adj 32 124 (d :: s)) = false
        rw [ih, Bool.or_false, Bool.and_eq_false_iff]
        by_cases h3 : c = 32
        · right
          refine beq_eq_false_iff_ne.mpr fun h4 => ?_
          rcases repl_head (l := r) (by rw [hx, h4]; rfl) with h5 | ⟨s', h5⟩
          · cases r with
            | nil => cases h5
            | cons e s' =>
              have : e = 124 := Option.some.inj h5
              exact hc (by rw [h3, this]; rfl)
          · rw [h5, h3] at ha
            cases ha
        · left
          exact beq_eq_false_iff_ne.mpr h3
theorem replS_mem {y z : List Nat} : ∀ (s : Nat) (l : List Nat), c ∈ replS y z s l → c ∈ z ∨ c ∈ l
  | _, [], h => by simp [replS] at h
  | 0, d :: r, h => by
    rw [replS] at h
    split at h
    · rcases List.mem_append.mp h with h | h
      · exact .inl h
      · exact (replS_mem _ r h).imp id (List.mem_cons_of_mem _)
    · rcases List.mem_cons.mp h with rfl | h
      · exact .inr (by simp)
      · exact (replS_mem _ r h).imp id (List.mem_cons_of_mem _)
  | s + 1, d :: r, h => by
    rw [replS] at h
    exact (replS_mem _ r h).imp id (List.mem_cons_of_mem _)
/-- one sign replaced -/
theorem repl_one (a : Nat) (z : List Nat) : ∀ l : List Nat, replL [a] z l = l.flatMap fun c => if c = a then z else [c]
  | [] => replL_nil
  | c :: r => by
    have ih := repl_one a z r
    rw [List.flatMap_cons]
    by_cases h : c = a
    · rw [replL_hit (by simp) (by rw [h]; rfl), if_pos h]
      congr 1
    · rw [replL_miss (by simpa using h), if_neg h, ih]
      rfl
/-- no blanks side by side, none at the end -/
def tidy (l : List Nat) : Prop := adj 32 32 l = false ∧ l.getLast? ≠ some 32
theorem tidy.app (h : tidy u) (g : tidy v) : tidy (u ++ v) := by
  refine ⟨adj_app h.1 g.1 h.2, ?_⟩
  rw [List.getLast?_append]
  cases e : v.getLast? with
  | none => exact h.2
  | some x => rw [← e]; simpa [e] using g.2
theorem tidy_free (h : 32 ∉ l) : tidy l := ⟨adj_free h, fun e => h (List.mem_of_getLast? e)⟩
theorem tidy_nil : tidy [] := tidy_free (by simp)
end
section
variable {s t k : Str} {l : Lock} {p q : List Lock} {r : List Bool} {ks L : List Str} {c : Nat}
theorem tidy_cat : ∀ {L : List Str}, (∀ x ∈ L, tidy x.cps.toList) → tidy (catS L).cps.toList
  | [], _ => by rw [show catS [] = "" from rfl, cps_nil]; exact tidy_nil
  | x :: L, h => by
    rw [catS_cons, cps_append]
    exact (h x (by simp)).app (tidy_cat fun y hy => h y (List.mem_cons_of_mem _ hy))
theorem word_pos (h : isWordS s = true) : s.cps.toList ≠ [] := fun z => by
  simp only [isWordS, Bool.and_eq_true, decide_eq_true_eq] at h
  have : s.length = 0 := by have := congrArg List.length z; simpa [Str.length] using this
  omega
theorem tidy_word (h : isWordS s = true) : tidy s.cps.toList := tidy_free (word_no h (by omega))
theorem tidy_sp (h : isWordS s = true) : tidy ((" " : Str) ++ s).cps.toList := by
  rw [cps_append, sp_ch, ch_cps]
  have h0 := word_no h (c := 32) (by omega)
  have h1 := word_pos h
  cases hs : s.cps.toList with
  | nil => exact absurd hs h1
  | cons x xs =>
    rw [hs] at h0
    have hx : x ≠ 32 := fun e => h0 (by rw [e]; simp)
    refine ⟨?_, ?_⟩
    · show (((32 : Nat) == 32 && x == 32) || adj 32 32 (x :: xs)) = false
      rw [adj_free h0, beq_eq_false_iff_ne.mpr hx]; rfl
    · show ((32 : Nat) :: x :: xs).getLast? ≠ some 32
      rw [List.getLast?_cons_cons]
      exact fun e => h0 (List.mem_of_getLast? e)
theorem tidy_keys (h : okKeys ks = true) : tidy (spS ks).cps.toList := tidy_cat fun x hx => by
  obtain ⟨k, hk, rfl⟩ := List.mem_map.mp hx
  exact tidy_sp ((okKeys_iff.mp h).2.1 k hk)
theorem tidy_line (h1 : isWordS l.1 = true) (h2 : okKeys l.2.1 = true) (h3 : okKeys l.2.2 = true) : tidy (lineS l ++ "\n").cps.toList := by
  unfold lineS
  simp only [cps_append, spbar]
  have e1 : tidy (":" : Str).cps.toList := ⟨by decide +kernel, by decide +kernel⟩
  have e2 : tidy ((" " : Str).cps.toList ++ ("|" : Str).cps.toList) := ⟨by decide +kernel, by decide +kernel⟩
  have e3 : tidy ("\n" : Str).cps.toList := ⟨by decide +kernel, by decide +kernel⟩
  exact (((((tidy_word h1).app e1).app (tidy_keys h2)).app e2).app (tidy_keys h3)).app e3
theorem tidy_plant (ok : OkP p) : tidy (plantS p).cps.toList := tidy_cat fun x hx => by
  obtain ⟨l, hl, rfl⟩ := List.mem_map.mp hx
  obtain ⟨h1, h2, h3⟩ := (okP_iff.mp ok).2.1 l hl
  exact tidy_line h1 h2 h3
theorem adj_plant (ok : OkP q) : adj 32 124 (plantS q).cps.toList = true := by
  cases q with
  | nil => exact absurd rfl (ok_pos ok)
  | cons l q =>
    unfold plantS
    rw [List.map_cons, catS_cons, cps_append]
    refine adj_left ?_
    unfold lineS
    simp only [cps_append, spbar]
    refine adj_left (adj_left (adj_right ?_))
    decide +kernel
theorem np_repl (ok : OkP p) (oq : OkP q) : plantS q ≠ Txt.replace (plantS p) " |" "|" := fun h => by
  have h1 := adj_plant oq
  rw [h, replace_list (by decide)] at h1
  have e1 : (" |" : Str).cps.toList = [32, 124] := by decide +kernel
  have e2 : ("|" : Str).cps.toList = [124] := by decide +kernel
  rw [e1, e2, repl_no _ _ (Nat.le_refl _) (tidy_plant ok).1] at h1
  cases h1
def small (s : Str) : Prop := ∀ c ∈ s.cps.toList, c < 128
theorem small.app (h : small s) (g : small t) : small (s ++ t) := fun c hc => by
  rw [cps_append, List.mem_append] at hc
  exact hc.elim (h c) (g c)
theorem small_cat : ∀ {L : List Str}, (∀ x ∈ L, small x) → small (catS L)
  | [], _ => by rw [show catS [] = "" from rfl]; intro c hc; rw [cps_nil] at hc; simp at hc
  | x :: L, h => by
    rw [catS_cons]
    exact (h x (by simp)).app (small_cat fun y hy => h y (List.mem_cons_of_mem _ hy))
theorem small_word (h : isWordS s = true) : small s := fun c hc => by
  simp only [isWordS, Bool.and_eq_true, List.all_eq_true] at h
  have := h.2 c hc
  simp only [isLow, decide_eq_true_eq] at this
  omega
theorem small_con {s : Str} (h : s.cps.toList.all (fun c => decide (c < 128)) = true) : small s := fun c hc => by
  have := List.all_eq_true.mp h c hc
  simpa using this
theorem small_plant (ok : OkP p) : small (plantS p) := small_cat fun x hx => by
  obtain ⟨l, hl, rfl⟩ := List.mem_map.mp hx
  obtain ⟨h1, h2, h3⟩ := (okP_iff.mp ok).2.1 l hl
  have hk : ∀ {ks : List Str}, okKeys ks = true → small (spS ks) := fun h => small_cat fun x hx => by
    obtain ⟨k, hk, rfl⟩ := List.mem_map.mp hx
    exact (small_con (by decide +kernel)).app (small_word ((okKeys_iff.mp h).2.1 k hk))
  unfold lineS
  exact (((((small_word h1).app (small_con (by decide +kernel))).app (hk h2)).app (small_con (by decide +kernel))).app (hk h3)).app (small_con (by decide +kernel))
theorem small_repl {y z : Str} (hy : 1 ≤ y.length) (h : small s) (hz : small z) : small (Txt.replace s y z) := fun c hc => by
  rw [replace_list hy] at hc
  rcases replS_mem _ _ hc with hc | hc
  · exact hz c hc
  · exact h c hc
theorem small.ok (h : small s) : PyData.strOk s = true := by
  unfold PyData.strOk
  rw [← Array.all_toList, List.all_eq_true]
  intro c hc
  have := h c hc
  simp only [decide_eq_true_eq]
  omega
def wordsS (p : List Lock) (r : List Bool) : List Str := (List.range p.length).map (posS p r)
theorem stateS_join (p : List Lock) (r : List Bool) : stateS p r = Str.join (ch 32) (wordsS p r) := by
  unfold stateS wordsS; rw [sp_ch]
theorem posS_codes (ok : OkP p) {i : Nat} (hi : i < p.length) (hc : c ∈ (posS p r i).cps.toList) : (97 ≤ c ∧ c ≤ 122) ∨ c = 61 ∨ c = 48 ∨ c = 49 := by
  obtain ⟨h1, _⟩ := (okP_iff.mp ok).2.1 _ (lk_mem hi)
  unfold posS at hc
  rw [cps_append, cps_append, List.mem_append, List.mem_append] at hc
  have e1 : ("=" : Str).cps.toList = [61] := by decide +kernel
  have e2 : ("0" : Str).cps.toList = [48] := by decide +kernel
  have e3 : ("1" : Str).cps.toList = [49] := by decide +kernel
  rcases hc with (hc | hc) | hc
  · by_cases h : 97 ≤ c ∧ c ≤ 122
    · exact .inl h
    · exact absurd hc (word_no h1 h)
  · rw [e1, List.mem_singleton] at hc; exact .inr (.inl hc)
  · cases hb : r.getD i false with
    | false => rw [hb] at hc; have hc : c ∈ ("0" : Str).cps.toList := hc; rw [e2, List.mem_singleton] at hc; exact .inr (.inr (.inl hc))
    | true => rw [hb] at hc; have hc : c ∈ ("1" : Str).cps.toList := hc; rw [e3, List.mem_singleton] at hc; exact .inr (.inr (.inr hc))
theorem wordsS_codes (ok : OkP p) : ∀ x ∈ wordsS p r, ∀ c ∈ x.cps.toList, (97 ≤ c ∧ c ≤ 122) ∨ c = 61 ∨ c = 48 ∨ c = 49 := fun x hx c hc => by
  obtain ⟨i, hi, rfl⟩ := List.mem_map.mp hx
  exact posS_codes ok (List.mem_range.mp hi) hc
theorem wordsS_free (ok : OkP p) : ∀ x ∈ wordsS p r, 32 ∉ x.cps.toList := fun x hx hc => by
  have := wordsS_codes ok x hx 32 hc
  omega
theorem wordsS_len : (wordsS p r).length = p.length := by simp [wordsS]
theorem wordsS_ne (ok : OkP p) : wordsS p r ≠ [] := fun h => by
  have := wordsS_len (p := p) (r := r)
  rw [h] at this
  have := (okP_iff.mp ok).1.1
  simp at *; omega
theorem state_split (ok : OkP p) : Txt.split (stateS p r) " " = wordsS p r := by
  rw [stateS_join, sp_ch]
  exact split_join (wordsS_ne ok) (wordsS_free ok)
theorem wordsB_state (ok : OkP p) (hl : r.length = p.length) : wordsB (stateS p r) = r := by
  unfold wordsB
  rw [state_split ok]
  unfold wordsS
  rw [List.map_map]
  have h1 : ("1" : Str) = ch 49 := by decide +kernel
  have h0 : ("0" : Str) = ch 48 := by decide +kernel
  have key : ∀ i, ((fun w => Txt.endswith w "1") ∘ posS p r) i = r.getD i false := fun i => by
    show Txt.endswith ((lk p i).1 ++ "=" ++ bitS (r.getD i false)) "1" = _
    cases r.getD i false with
    | true =>
      show Txt.endswith ((lk p i).1 ++ "=" ++ "1") "1" = true
      rw [h1, ends_ch]
    | false =>
      show Txt.endswith ((lk p i).1 ++ "=" ++ "0") "1" = false
      rw [Bool.eq_false_iff]
      intro h
      rw [h1] at h
      obtain ⟨n, hn⟩ := ends_inv h
      have := congrArg (fun x : Str => x.cps.toList.getLast?) hn
      simp [cps_append, h0, ch_cps] at this
  rw [List.map_congr_left fun i _ => key i, ← hl]
  exact List.ext_getElem (by simp) fun i h1 h2 => by simp [List.getD, h2]
/-- other words, or another number of them -/
theorem ns_len (ok : OkP p) {r' : List Bool} (hL : L ≠ []) (hf : ∀ x ∈ L, 32 ∉ x.cps.toList) (hl : L.length ≠ p.length) (h : stateS p r' = Str.join (ch 32) L) : False := by
  rw [stateS_join] at h
  have := join_inj (wordsS_ne ok) hL (wordsS_free ok) hf h
  exact hl (by rw [← this, wordsS_len])
theorem gl_mem {x : List Nat} : ∀ {l : List (List Nat)}, x ∈ l → c ∈ x → c ∈ gl 32 l
  | [y], h, hc => by rw [List.mem_singleton.mp h] at hc; exact hc
  | y :: w :: q, h, hc => by
    show c ∈ y ++ 32 :: gl 32 (w :: q)
    rcases List.mem_cons.mp h with rfl | h
    · exact List.mem_append_left _ hc
    · exact List.mem_append_right _ (List.mem_cons_of_mem _ (gl_mem h hc))
theorem gl_free (hc : c ≠ 32) : ∀ {l : List (List Nat)}, (∀ x ∈ l, c ∉ x) → c ∉ gl 32 l
  | [], _, h => by simp [gl] at h
  | [y], h, z => h y (by simp) z
  | y :: w :: q, h, z => by
    have z : c ∈ y ++ 32 :: gl 32 (w :: q) := z
    rcases List.mem_append.mp z with z | z
    · exact h y (by simp) z
    · rcases List.mem_cons.mp z with z | z
      · exact hc z
      · exact gl_free hc (l := w :: q) (fun x hx => h x (List.mem_cons_of_mem _ hx)) z
theorem gl_len : ∀ {l m : List (List Nat)}, l.map List.length = m.map List.length → (gl 32 l).length = (gl 32 m).length
  | [], [], _ => rfl
  | [], _ :: _, h => by cases h
  | _ :: _, [], h => by cases h
  | [x], [y], h => (List.cons.inj h).1
  | [x], _ :: _ :: _, h => by cases (List.cons.inj h).2
  | _ :: _ :: _, [_], h => by cases (List.cons.inj h).2
  | x :: x2 :: l, y :: y2 :: m, h => by
    have h1 := (List.cons.inj h).1
    have h2 := gl_len (l := x2 :: l) (m := y2 :: m) (List.cons.inj h).2
    show (x ++ 32 :: gl 32 (x2 :: l)).length = (y ++ 32 :: gl 32 (y2 :: m)).length
    rw [List.length_append, List.length_append, List.length_cons, List.length_cons, h1, h2]
theorem state_cps (p : List Lock) (r : List Bool) : (stateS p r).cps.toList = gl 32 ((wordsS p r).map fun s => s.cps.toList) := by
  rw [stateS_join, join_cps]
theorem state_eq_sign (ok : OkP p) : 61 ∈ (stateS p r).cps.toList := by
  rw [state_cps]
  have hp := (okP_iff.mp ok).1.1
  refine gl_mem (x := (posS p r 0).cps.toList) (List.mem_map.mpr ⟨_, List.mem_map.mpr ⟨0, List.mem_range.mpr hp, rfl⟩, rfl⟩) ?_
  have e1 : ("=" : Str).cps.toList = [61] := by decide +kernel
  unfold posS
  rw [cps_append, cps_append, e1]
  simp
theorem state_codes (ok : OkP p) (hc : c ∈ (stateS p r).cps.toList) (h32 : c ≠ 32) : (97 ≤ c ∧ c ≤ 122) ∨ c = 61 ∨ c = 48 ∨ c = 49 := by
  rw [state_cps] at hc
  by_cases h : ∀ x ∈ (wordsS p r).map fun s => s.cps.toList, c ∉ x
  · exact absurd hc (gl_free h32 h)
  · simp only [Classical.not_forall, Classical.not_not] at h
    obtain ⟨x, hx, hcx⟩ := h
    obtain ⟨s, hs, rfl⟩ := List.mem_map.mp hx
    exact wordsS_codes ok s hs c hcx
theorem small_state (ok : OkP p) : small (stateS p r) := fun c hc => by
  by_cases h : c = 32
  · omega
  · have := state_codes ok hc h
    omega
theorem state_len_eq (r' : List Bool) : (stateS p r').cps.toList.length = (stateS p r).cps.toList.length := by
  rw [state_cps, state_cps]
  refine gl_len ?_
  unfold wordsS
  simp only [List.map_map]
  refine List.map_congr_left fun i _ => ?_
  show (posS p r' i).cps.toList.length = (posS p r i).cps.toList.length
  have h : ∀ r, (posS p r i).cps.toList.length = (lk p i).1.length + 2 := fun r => by
    have e : (posS p r i).cps.toList.length = (posS p r i).length := by simp [Str.length]
    rw [e]
    unfold posS
    rw [len_app, len_app, bitS_len, len_c1.2.2.2.1]
  rw [h, h]
variable {r' : List Bool}
theorem ns_nil (ok : OkP p) : stateS p r' ≠ "" := fun h => by
  have := state_eq_sign (r := r') ok
  rw [h, cps_nil] at this
  simp at this
theorem ns_behind (ok : OkP p) : stateS p r' ≠ stateS p r ++ " " := fun h => by
  refine ns_len (r' := r') (L := wordsS p r ++ [("" : Str)]) ok (by simp) (fun x hx => ?_) (by simp [wordsS_len]) (h.trans ?_)
  · rcases List.mem_append.mp hx with hx | hx
    · exact wordsS_free ok x hx
    · rw [List.mem_singleton.mp hx, cps_nil]; simp
  · rw [join_snoc _ _ _ (wordsS_ne ok), app_nil, stateS_join, sp_ch]
theorem ns_ahead (ok : OkP p) : stateS p r' ≠ " " ++ stateS p r := fun h => by
  refine ns_len (r' := r') (L := ("" : Str) :: wordsS p r) ok (by simp) (fun x hx => ?_) (by simp [wordsS_len]) (h.trans ?_)
  · rcases List.mem_cons.mp hx with rfl | hx
    · rw [cps_nil]; simp
    · exact wordsS_free ok x hx
  · have hne := wordsS_ne (r := r) ok
    rw [stateS_join]
    cases hw : wordsS p r with
    | nil => exact absurd hw hne
    | cons x l =>
      show _ = ("" : Str) ++ ch 32 ++ Str.join (ch 32) (x :: l)
      rw [nil_app, sp_ch]
theorem ns_word (ok : OkP p) : stateS p r' ≠ stateS p r ++ " q=0" := fun h => by
  refine ns_len (r' := r') (L := wordsS p r ++ [("q=0" : Str)]) ok (by simp) (fun x hx => ?_) (by simp [wordsS_len]) (h.trans ?_)
  · rcases List.mem_append.mp hx with hx | hx
    · exact wordsS_free ok x hx
    · rw [List.mem_singleton.mp hx]; decide +kernel
  · have e : (" q=0" : Str) = ch 32 ++ "q=0" := by decide +kernel
    rw [join_snoc _ _ _ (wordsS_ne ok), stateS_join, e, app_assoc]
theorem ns_line (ok : OkP p) : stateS p r' ≠ stateS p r ++ "\n" := fun h => by
  have h1 : 10 ∈ (stateS p r').cps.toList := by
    rw [h, cps_append, nl_ch, ch_cps]; simp
  have := state_codes ok h1 (by omega)
  omega
theorem eq_cps : ("=" : Str).cps.toList = [61] := by decide +kernel
theorem ns_colon (ok : OkP p) : stateS p r' ≠ Txt.replace (stateS p r) "=" ":" := fun h => by
  have h1 := state_eq_sign (r := r') ok
  rw [h, replace_list (by decide), eq_cps, co_ch, ch_cps, repl_one, List.mem_flatMap] at h1
  obtain ⟨c, _, hc⟩ := h1
  split at hc
  · simp at hc
  · rw [List.mem_singleton] at hc
    omega
theorem ns_one (ok : OkP p) : stateS p r' ≠ Txt.replace (stateS p r) "=" "=1" := fun h => by
  have h1 := state_len_eq (p := p) (r := r) r'
  have e1 : ("=1" : Str).cps.toList = [61, 49] := by decide +kernel
  rw [h, replace_list (by decide), eq_cps, e1, repl_one] at h1
  have h2 := state_eq_sign (r := r) ok
  generalize (stateS p r).cps.toList = l at h1 h2
  have key : ∀ l : List Nat, l.length ≤ (l.flatMap fun c => if c = 61 then [61, 49] else [c]).length ∧ (61 ∈ l → l.length < (l.flatMap fun c => if c = 61 then [61, 49] else [c]).length) := by
    intro l
    induction l with
    | nil => simp
    | cons x l ih =>
      rw [List.flatMap_cons, List.length_append, List.length_cons]
      by_cases hx : x = 61
      · rw [if_pos hx]
        simp only [List.length_cons, List.length_nil]
        exact ⟨by omega, fun _ => by omega⟩
      · rw [if_neg hx]
        simp only [List.length_cons, List.length_nil]
        refine ⟨by omega, fun h => ?_⟩
        rcases List.mem_cons.mp h with h | h
        · exact absurd h.symm hx
        · have := ih.2 h
          omega
  have := (key l).2 h2
  omega
end
end TK.P
namespace TK.P
open PySem TK L2
section
variable {s t k : Str} {l : Lock} {p q : List Lock} {r : List Bool} {c : Str} {d : D}
theorem Pu.forID {β : Type} {tg : Tg} {b : Env → M (Fl × Env)} {k : Fl × Env → M β} {Q : β → Prop} (l : List D) (I : Env → Prop) {env : Env} (hi : I env)
    (hs : ∀ a ∈ l, ∀ env, I env → ∃ env1, asgT tg a env = some env1 ∧ Pu (b env1) (fun r => r.1 = .nx ∧ I r.2))
    (hk : ∀ env, I env → Pu (k (.nx, env)) Q) : Pu (TK.forL tg b l env >>= k) Q := by
  have := Pu.forI (h := id) (tg := tg) (b := b) l I hi hs hk
  rw [List.map_id] at this
  exact this
theorem ppo_yes (ok : OkP p) : f__law_parse_plant_or [.str (plantS p)] = pure (plantD p) := or_ok (parse_plant_eq ok) rfl rfl
theorem ppo_no (ht : t.length ≤ 990) (h : ∀ q, OkP q → plantS q ≠ t) : f__law_parse_plant_or [.str t] = pure (.str "ParseError") := by
  rcases parse_plant_all ht with e | ⟨q, ok, e⟩
  · exact or_throw e rfl rfl rfl
  · exact absurd e (h q ok)
theorem ppo_other (h : typ .str d = false) : f__law_parse_plant_or [d] = pure (.str "ParseError") := by
  refine or_throw (c := "ParseError") ?_ rfl rfl rfl
  unfold f_parse_plant
  rw [run_eq rfl]
  simp [b_parse_plant, h]
theorem parse_state_eq (ok : OkP p) (hs : IsS p r) : f_parse_state [plantD p, .str (stateS p r)] = pure (rowD r) := by
  have hl := hs.len
  have h8 := (okP_iff.mp ok).1.2
  have hlen : (stateS p r).length ≤ 990 := by
    have h1 := StrLaws.join_length_le " " (wordsS p r)
    have h2 := sum_le (f := (fun x : Str => x.length) ∘ posS p r) (c := 6) (l := List.range p.length) fun x hx => pos_len ok r (List.mem_range.mp hx)
    have h3 : stateS p r = Str.join " " (wordsS p r) := rfl
    rw [h3]
    unfold wordsS at h1 ⊢
    rw [List.map_map, List.length_map, len_c1.2.2.2.2] at h1
    rw [List.length_range] at h1 h2
    omega
  rw [parse_state_all ok hlen, wordsB_state ok hl, hs.st]
  simp
theorem pso_yes (ok : OkP p) (hs : IsS p r) : f__law_parse_state_or [plantD p, .str (stateS p r)] = pure (rowD r) := or_ok (parse_state_eq ok hs) rfl rfl
theorem pso_no (ok : OkP p) (ht : t.length ≤ 990) (h : ∀ r', stateS p r' ≠ t) : f__law_parse_state_or [plantD p, .str t] = pure (.str "ParseError") := by
  refine or_throw (c := "ParseError") ?_ rfl rfl rfl
  rw [parse_state_all ok ht, decide_eq_false (h _), Bool.and_false]
  rfl
theorem pso_other (ok : OkP p) (h : typ .str d = false) : f__law_parse_state_or [plantD p, d] = pure (.str "ParseError") := by
  refine or_throw (c := "ParseError") ?_ rfl rfl rfl
  unfold f_parse_state
  rw [run_eq rfl]
  simp [b_parse_state, require_plant_ok ok, h]
theorem pso_plant {n : Nat} {e : D} (h : nice n d = true) (hp : isPlant d = false) : f__law_parse_state_or [d, e] = pure (.str "InvalidPlant") := by
  refine or_throw (c := "InvalidPlant") ?_ rfl rfl rfl
  unfold f_parse_state
  rw [run_eq rfl]
  simp [b_parse_state, require_plant_no h hp]
theorem app1_repl {y z : Str} (hy : 1 ≤ y.length) (hs : small s) (hz : small z) (hl : s.length + (s.length + 1) * z.length ≤ 16777216) : app1 (.repl y z) (.str s) = some (.str (Txt.replace s y z)) := by
  show (if s.length + (s.length + 1) * z.length ≤ 16777216 ∧ PyData.strOk (Txt.replace s y z) = true then some (PyData.str (Txt.replace s y z)) else none) = _
  rw [if_pos ⟨hl, (small_repl hy hs hz).ok⟩]
theorem plantS_len7 (ok : OkP p) (h7 : p.length ≤ 7) : (plantS p).length ≤ 476 := by
  obtain ⟨_, _, c3, _⟩ := len_c1
  unfold plantS
  rw [catS_len, List.map_map]
  have hs := sum_le (f := (fun x : Str => x.length) ∘ fun l : Lock => lineS l ++ "\n") (c := 68) (l := p) fun l hl => by
    show (lineS l ++ "\n").length ≤ 68
    rw [len_app]
    have := line_len ok hl
    omega
  omega
theorem stateS_len (ok : OkP p) (r : List Bool) : (stateS p r).length ≤ 56 := by
  have h8 := (okP_iff.mp ok).1.2
  have h1 := StrLaws.join_length_le " " (wordsS p r)
  have h2 := sum_le (f := (fun x : Str => x.length) ∘ posS p r) (c := 6) (l := List.range p.length) fun x hx => pos_len ok r (List.mem_range.mp hx)
  have h3 : stateS p r = Str.join " " (wordsS p r) := rfl
  rw [h3]
  unfold wordsS at h1 ⊢
  rw [List.map_map, List.length_map, len_c1.2.2.2.2] at h1
  rw [List.length_range] at h1 h2
  omega
theorem refused_eq (ok : OkP p) (h7 : p.length ≤ 7) : f__law_refused_k29 [plantD p, .str (plantS p), .str (stateS p r)] = pure (.bool true) := by
  have lT := plantS_len7 ok h7
  have lS := stateS_len ok r
  obtain ⟨c1, c2, c3, c4, c5⟩ := len_c1
  have hcut := plantS_cut ok
  have lC : (cutT p).length ≤ 476 := by rw [hcut, len_app] at lT; omega
  have e0 : slcD (.str (plantS p)) none (some (-1)) = some (.str (cutT p)) := by rw [hcut]; exact cut_to_last _ _ (by omega)
  have cb : ("|" : Str).length = 1 := by decide +kernel
  have c6 : ("=1" : Str).length = 2 := by decide +kernel
  have c7 : (" q=0" : Str).length = 4 := by decide +kernel
  have sb := small_con (s := "|") (by decide +kernel)
  have s1 := small_con (s := ":") (by decide +kernel)
  have s2 := small_con (s := "=1") (by decide +kernel)
  have e1 := app1_repl (y := " |") (z := "|") (by decide) (small_plant ok) sb (by rw [cb]; omega)
  have e2 := app1_repl (y := "=") (z := ":") (by decide) (small_state (r := r) ok) s1 (by rw [c1]; omega)
  have e3 := app1_repl (y := "=") (z := "=1") (by decide) (small_state (r := r) ok) s2 (by rw [c6]; omega)
  have l1 := replace_len (plantS p) " |" "|"
  have l2 := replace_len (stateS p r) "=" ":"
  have l3 := replace_len (stateS p r) "=" "=1"
  rw [cb] at l1
  rw [c1] at l2
  rw [c6] at l3
  have p1 := ppo_no (t := "") (by decide) fun q oq => np_nil oq
  have p2 := ppo_no (t := cutT p) (by omega) fun q oq => np_cut ok oq
  have p3 := ppo_no (t := plantS p ++ "\n") (by rw [len_app]; omega) fun q oq => np_more ok oq
  have p4 := ppo_no (t := "\n" ++ plantS p) (by rw [len_app]; omega) fun q oq => np_front ok oq
  have p5 := ppo_no (t := " " ++ plantS p) (by rw [len_app]; omega) fun q oq => np_blank ok oq
  have p6 := ppo_no (t := plantS p ++ plantS p) (by rw [len_app]; omega) fun q oq => np_twice ok oq
  have p7 := ppo_no (t := Txt.replace (plantS p) " |" "|") (by omega) fun q oq => np_repl ok oq
  have p8 := ppo_no (t := "a:\n") (by decide +kernel) fun q oq => np_w1 oq
  have p9 := ppo_no (t := "a: | |\n") (by decide +kernel) fun q oq => np_w2 oq
  have p10 := ppo_no (t := "a |\n") (by decide +kernel) fun q oq => np_w3 oq
  have p11 := ppo_no (t := "a: k k |\n") (by decide +kernel) fun q oq => np_w4 oq
  have p12 := ppo_other (d := .none) rfl
  have p13 := ppo_other (d := .tuple []) rfl
  have p14 := ppo_other (d := .int 5) rfl
  have q1 := pso_no ok (t := "") (by decide) fun r' => ns_nil ok
  have q2 := pso_no ok (t := stateS p r ++ " ") (by rw [len_app]; omega) fun r' => ns_behind ok
  have q3 := pso_no ok (t := " " ++ stateS p r) (by rw [len_app]; omega) fun r' => ns_ahead ok
  have q4 := pso_no ok (t := stateS p r ++ "\n") (by rw [len_app]; omega) fun r' => ns_line ok
  have q5 := pso_no ok (t := Txt.replace (stateS p r) "=" ":") (by omega) fun r' => ns_colon ok
  have q6 := pso_no ok (t := stateS p r ++ " q=0") (by rw [len_app]; omega) fun r' => ns_word ok
  have q7 := pso_no ok (t := Txt.replace (stateS p r) "=" "=1") (by omega) fun r' => ns_one ok
  have q8 := pso_other ok (d := .none) rfl
  have q9 := pso_other ok (d := .int 5) rfl
  have q10 := pso_plant (n := 1) (d := .tuple []) (e := .str (stateS p r)) rfl rfl
  have q11 := pso_plant (n := 1) (d := .int 1) (e := .int 1) rfl rfl
  have a1 : (plantS p).length + ("\n" : Str).length ≤ 16777216 := by omega
  have a2 : ("\n" : Str).length + (plantS p).length ≤ 16777216 := by omega
  have a3 : (" " : Str).length + (plantS p).length ≤ 16777216 := by omega
  have a4 : (plantS p).length + (plantS p).length ≤ 16777216 := by omega
  have b1 : (stateS p r).length + (" " : Str).length ≤ 16777216 := by omega
  have b2 : (" " : Str).length + (stateS p r).length ≤ 16777216 := by omega
  have b3 : (stateS p r).length + ("\n" : Str).length ≤ 16777216 := by omega
  have b4 : (stateS p r).length + (" q=0" : Str).length ≤ 16777216 := by omega
  have ee : eqD (.str "ParseError") (.str "ParseError") = some true := by rw [eqD_strS]; simp
  have ei : eqD (.str "InvalidPlant") (.str "InvalidPlant") = some true := by rw [eqD_strS]; simp
  clear lT lS hcut lC sb s1 s2 l1 l2 l3 c1 c2 c3 c4 c5 cb c6 c7
  generalize Txt.replace (plantS p) " |" "|" = R at *
  generalize Txt.replace (stateS p r) "=" ":" = R1 at *
  generalize Txt.replace (stateS p r) "=" "=1" = R2 at *
  generalize cutT p = C at *
  generalize plantS p = T at *
  generalize stateS p r = S at *
  have ew : ∀ l : List D, walkL .plain [.list l] = some l := fun _ => rfl
  unfold f__law_refused_k29
  rw [run_eq rfl]
  refine Pu.eq ?_
  (conv => arg 1; simp -dsimp -implicitDefEqProofs [limv, -List.getD_eq_getElem?_getD, List.getD_cons_zero, List.getD_cons_succ, -bind_assoc', -ex_asg, -ex_ite, -ex_unp, -ex_par, -ex_for, nxM_cons, ex_asgK, asgK_def, ex_iteK, iteK_t, iteK_f, ex_unpK, unpK_def, ex_parK, parK_cons, ex_forK, forK_def, forJ_def, b__law_refused_k29, e0, e1, a1, a2, a3, a4, b1, b2, b3, b4, e2, e3, ew]; try simp only [bind_assoc'])
  have hall : ∀ a ∈ [PyData.str "", .str C, .str (T ++ "\n"), .str ("\n" ++ T), .str (" " ++ T), .str (T ++ T), .none, .tuple [], .int 5, .str R, .str "a:\n", .str "a: | |\n", .str "a |\n", .str "a: k k |\n"], f__law_parse_plant_or [a] = pure (.str "ParseError") := by
    simp only [List.forall_mem_cons, List.not_mem_nil, false_implies, implies_true, and_true]
    exact ⟨p1, p2, p3, p4, p5, p6, p12, p13, p14, p7, p8, p9, p10, p11⟩
  have hall2 : ∀ a ∈ [PyData.str "", .str (S ++ " "), .str (" " ++ S), .str (S ++ "\n"), .str R1, .none, .int 5, .str (S ++ " q=0"), .str R2], f__law_parse_state_or [plantD p, a] = pure (.str "ParseError") := by
    simp only [List.forall_mem_cons, List.not_mem_nil, false_implies, implies_true, and_true]
    exact ⟨q1, q2, q3, q4, q5, q8, q9, q6, q7⟩
  refine Pu.forID _ (fun (env : Env) => ∃ slot3 slot4, env = [.val (plantD p), .val (.str T), .val (.str S), slot3, slot4]) (by ((repeat apply Exists.intro); rfl)) ?_ ?_
  · intro a ha env hI
    (repeat obtain ⟨_, hI⟩ := hI)
    refine ⟨_, rfl, ?_⟩
    (conv => arg 1; simp -dsimp -implicitDefEqProofs [limv, -List.getD_eq_getElem?_getD, List.getD_cons_zero, List.getD_cons_succ, -bind_assoc', -ex_asg, -ex_ite, -ex_unp, -ex_par, -ex_for, nxM_cons, ex_asgK, asgK_def, ex_iteK, iteK_t, iteK_f, ex_unpK, unpK_def, ex_parK, parK_cons, ex_forK, forK_def, forJ_def, hall a ha, ee]; try simp only [bind_assoc'])
    exact .pure ⟨rfl, by ((repeat apply Exists.intro); rfl)⟩
  · intro env hI
    (repeat obtain ⟨_, hI⟩ := hI)
    (conv => arg 1; simp -dsimp -implicitDefEqProofs [limv, -List.getD_eq_getElem?_getD, List.getD_cons_zero, List.getD_cons_succ, -bind_assoc', -ex_asg, -ex_ite, -ex_unp, -ex_par, -ex_for, nxM_cons, ex_asgK, asgK_def, ex_iteK, iteK_t, iteK_f, ex_unpK, unpK_def, ex_parK, parK_cons, ex_forK, forK_def, forJ_def, e2, e3, b1, b2, b3, b4, ew]; try simp only [bind_assoc'])
    refine Pu.forID _ (fun (env : Env) => ∃ slot3 slot4, env = [.val (plantD p), .val (.str T), .val (.str S), slot3, slot4]) (by ((repeat apply Exists.intro); rfl)) ?_ ?_
    · intro a ha env hI
      (repeat obtain ⟨_, hI⟩ := hI)
      refine ⟨_, rfl, ?_⟩
      (conv => arg 1; simp -dsimp -implicitDefEqProofs [limv, -List.getD_eq_getElem?_getD, List.getD_cons_zero, List.getD_cons_succ, -bind_assoc', -ex_asg, -ex_ite, -ex_unp, -ex_par, -ex_for, nxM_cons, ex_asgK, asgK_def, ex_iteK, iteK_t, iteK_f, ex_unpK, unpK_def, ex_parK, parK_cons, ex_forK, forK_def, forJ_def, hall2 a ha, ee]; try simp only [bind_assoc'])
      exact .pure ⟨rfl, by ((repeat apply Exists.intro); rfl)⟩
    · intro env hI
      (repeat obtain ⟨_, hI⟩ := hI)
      (conv => arg 1; simp -dsimp -implicitDefEqProofs [limv, -List.getD_eq_getElem?_getD, List.getD_cons_zero, List.getD_cons_succ, -bind_assoc', -ex_asg, -ex_ite, -ex_unp, -ex_par, -ex_for, nxM_cons, ex_asgK, asgK_def, ex_iteK, iteK_t, iteK_f, ex_unpK, unpK_def, ex_parK, parK_cons, ex_forK, forK_def, forJ_def, q10, q11, ei]; try simp only [bind_assoc'])
      exact .pure rfl
end
end TK.P
namespace TK.P
open PySem TK L2
section
variable {s t k : Str} {c : Str} {d : D} {ns : List Int} {sg : List Str}
theorem ex_cust' (Γ : List FnSem) (f : List FnSem → Env → M (Fl × Env)) (env : Env) : ex Γ (.cust f) env = f Γ env := rfl
theorem cut_length {α : Type} (l : List α) (lo hi : Option Int) : (cut l lo hi).length ≤ l.length := by
  unfold cut
  rw [List.length_take, List.length_drop]
  omega
theorem slc_str (s : Str) (lo hi : Option Int) (h : s.length ≤ 1000) : ∃ x : Str, slcD (.str s) lo hi = some (.str x) ∧ x.length ≤ s.length := by
  refine ⟨⟨(cut s.cps.toList lo hi).toArray⟩, ?_, ?_⟩
  · show (if s.length ≤ lim then some (PyData.str ⟨(cut s.cps.toList lo hi).toArray⟩) else none) = _
    rw [if_pos (by rw [limv]; omega)]
  · have := cut_length s.cps.toList lo hi
    simpa [Str.length] using this
def sumL (l : List Str) : Nat := (l.map (·.length)).sum + l.length
theorem sumL_app (l m : List Str) : sumL (l ++ m) = sumL l + sumL m := by
  unfold sumL
  rw [List.map_append, List.sum_append, List.length_append]
  omega
theorem sumL_cons (x : Str) (m : List Str) : sumL (x :: m) = x.length + 1 + sumL m := by
  unfold sumL
  rw [List.map_cons, List.sum_cons, List.length_cons]
  omega
theorem sumL_rev (l : List Str) : sumL l.reverse = sumL l := by
  unfold sumL
  rw [List.map_reverse, List.sum_reverse, List.length_reverse]
theorem join_sum (c : Nat) (l : List Str) : (Str.join (ch c) l).length ≤ sumL l := by
  have := StrLaws.join_length_le (ch c) l
  unfold sumL
  rw [show (ch c).length = 1 from rfl] at this
  omega
theorem app2_join1 {c : Nat} {l : List Str} (h : sumL l ≤ 16777216) : app2 .join (.str (ch c)) (.list (l.map .str)) = some (.str (Str.join (ch c) l)) := by
  refine app2_join ?_
  unfold sumL at h
  rw [show (ch c).length = 1 from rfl]
  omega
theorem split_sum (s : Str) (c : Nat) : sumL (Txt.split s (ch c)) ≤ s.length + 1 := PyProof.Rows.split_weight s (ch c) (Nat.le_refl 1)
theorem len_strD (s : Str) (h : s.length ≤ 1000) : app1 .len (.str s) = some (.int (s.length : Int)) := by
  show (if s.length ≤ lim then some (PyData.int s.length) else none) = _
  rw [if_pos (by rw [limv]; omega)]
theorem cut_one {α : Type} (A B : List α) (x : α) : cut (A ++ x :: B) (some (A.length : Int)) (some ((A.length : Int) + 1)) = [x] := by
  unfold cut
  rw [show ((A.length : Int) + 1) = ((A.length + 1 : Nat) : Int) by omega, HT.sIx_nat, HT.sIx_nat, List.length_append, List.length_cons, Nat.min_eq_left (by omega), Nat.min_eq_left (by omega), List.drop_left, show A.length + 1 - A.length = 1 by omega]
  rfl
theorem cut_upto {α : Type} (l : List α) (i : Nat) : cut l none (some (i : Int)) = l.take i := cut_hi l i
theorem at_mid (A B : List D) (x : D) : atI (A ++ x :: B) (A.length : Int) = some x := by
  rw [atI_nat _ (by omega) (by rw [List.length_append, List.length_cons]; omega)]
  simp
theorem splice_eq (A B M : List Str) (x : Str) (h : (A ++ x :: B).length + M.length ≤ 10000) : spliceD ((A ++ x :: B).map .str) (.list (M.map .str)) (.int (A.length : Int)) (.int ((A.length : Int) + 1)) = some ((A ++ M ++ B).map .str) := by
  unfold spliceD
  dsimp only
  have h1 : ((A ++ x :: B).map PyData.str).length = A.length + (B.length + 1) := by simp
  have h2 : (A ++ x :: B).length = A.length + (B.length + 1) := by simp
  have h3 : (M.map PyData.str).length = M.length := by simp
  rw [if_pos ⟨by omega, by omega, by omega, by rw [h1, h3, limv]; omega⟩]
  have e1 : ((A.length : Int)).toNat = (A.map PyData.str).length := by simp
  have e2 : ((A.length : Int) + 1).toNat = (A.map PyData.str ++ [PyData.str x]).length := by simp
  have e3 : (A ++ x :: B).map PyData.str = A.map PyData.str ++ PyData.str x :: B.map PyData.str := by simp
  rw [e1, e2, e3, List.take_left, show A.map PyData.str ++ PyData.str x :: B.map PyData.str = (A.map PyData.str ++ [PyData.str x]) ++ B.map PyData.str by simp, List.drop_left]
  simp
theorem mid_of {L : List Str} {sp : Int} (h0 : 0 ≤ sp) (h1 : sp < (L.length : Int)) : ∃ A x B, L = A ++ x :: B ∧ sp = (A.length : Int) := by
  have h : sp.toNat < L.length := by omega
  refine ⟨L.take sp.toNat, L[sp.toNat], L.drop (sp.toNat + 1), ?_, ?_⟩
  · rw [← List.drop_eq_getElem_cons h, List.take_append_drop]
  · rw [List.length_take]; omega
theorem spoiled_wp (hns : ns.length ≤ 63) (ht : t.length ≤ 476) (hsg : sg ≠ []) (h4 : ∀ s ∈ sg, s.length ≤ 4) : Wp (f__law_spoiled [scr ns, tok, .str t, .list (sg.map .str)]) 10 (fun d => ∃ s, d = .str s ∧ s.length ≤ 990) := by
  unfold f__law_spoiled
  rw [run_eq rfl]
  have e1 := len_strD t (by omega)
  (conv => arg 1; simp -dsimp -implicitDefEqProofs [limv, -List.getD_eq_getElem?_getD, List.getD_cons_zero, List.getD_cons_succ, -bind_assoc', -ex_asg, -ex_ite, -ex_unp, -ex_par, -ex_for, nxM_cons, ex_asgK, asgK_def, ex_iteK, iteK_t, iteK_f, ex_unpK, unpK_def, ex_parK, parK_cons, ex_forK, forK_def, forJ_def, b__law_spoiled, e1]; try simp only [bind_assoc'])
  refine Wp.bindB (draw_wp hns (many := (t.length : Int) + 1) (by omega)) (by decide) fun d hd => ?_
  obtain ⟨at_, rfl, ha0, ha1⟩ := hd
  (conv => arg 1; simp -dsimp -implicitDefEqProofs [limv, -List.getD_eq_getElem?_getD, List.getD_cons_zero, List.getD_cons_succ, -bind_assoc', -ex_asg, -ex_ite, -ex_unp, -ex_par, -ex_for, nxM_cons, ex_asgK, asgK_def, ex_iteK, iteK_t, iteK_f, ex_unpK, unpK_def, ex_parK, parK_cons, ex_forK, forK_def, forJ_def]; try simp only [bind_assoc'])
  refine Wp.bindB (draw_wp hns (many := 6) (by omega)) (by decide) fun d hd => ?_
  obtain ⟨v, rfl, hv0, hv1⟩ := hd
  (conv => arg 1; simp -dsimp -implicitDefEqProofs [limv, -List.getD_eq_getElem?_getD, List.getD_cons_zero, List.getD_cons_succ, -bind_assoc', -ex_asg, -ex_ite, -ex_unp, -ex_par, -ex_for, nxM_cons, ex_asgK, asgK_def, ex_iteK, iteK_t, iteK_f, ex_unpK, unpK_def, ex_parK, parK_cons, ex_forK, forK_def, forJ_def]; try simp only [bind_assoc'])
  refine Wp.bindB (pick_wp hns (l := sg.map .str) (by simpa using hsg)) (by decide) fun d hd => ?_
  obtain ⟨g, hg, rfl⟩ := List.mem_map.mp hd
  have g4 := h4 g hg
  obtain ⟨x1, f1, l1⟩ := slc_str t none (some at_) (by omega)
  obtain ⟨x2, f2, l2⟩ := slc_str t (some (at_ + 1)) none (by omega)
  obtain ⟨x3, f3, l3⟩ := slc_str t (some at_) none (by omega)
  have k1 : x1.length + x2.length ≤ 16777216 := by omega
  have k2 : x1.length + g.length ≤ 16777216 := by omega
  have k3 : (x1 ++ g).length + x3.length ≤ 16777216 := by rw [len_app]; omega
  have k4 : (x1 ++ g).length + x2.length ≤ 16777216 := by rw [len_app]; omega
  (conv => arg 1; simp -dsimp -implicitDefEqProofs [limv, -List.getD_eq_getElem?_getD, List.getD_cons_zero, List.getD_cons_succ, -bind_assoc', -ex_asg, -ex_ite, -ex_unp, -ex_par, -ex_for, nxM_cons, ex_asgK, asgK_def, ex_iteK, iteK_t, iteK_f, ex_unpK, unpK_def, ex_parK, parK_cons, ex_forK, forK_def, forJ_def]; try simp only [bind_assoc'])
  by_cases v0 : v = 0
  · (conv => arg 1; simp -dsimp -implicitDefEqProofs [limv, -List.getD_eq_getElem?_getD, List.getD_cons_zero, List.getD_cons_succ, -bind_assoc', -ex_asg, -ex_ite, -ex_unp, -ex_par, -ex_for, nxM_cons, ex_asgK, asgK_def, ex_iteK, iteK_t, iteK_f, ex_unpK, unpK_def, ex_parK, parK_cons, ex_forK, forK_def, forJ_def, v0, f1, f2, k1]; try simp only [bind_assoc'])
    exact .pure ⟨_, rfl, by rw [len_app]; omega⟩
  (conv => arg 1; simp -dsimp -implicitDefEqProofs [limv, -List.getD_eq_getElem?_getD, List.getD_cons_zero, List.getD_cons_succ, -bind_assoc', -ex_asg, -ex_ite, -ex_unp, -ex_par, -ex_for, nxM_cons, ex_asgK, asgK_def, ex_iteK, iteK_t, iteK_f, ex_unpK, unpK_def, ex_parK, parK_cons, ex_forK, forK_def, forJ_def, v0]; try simp only [bind_assoc'])
  by_cases v1 : v = 1
  · (conv => arg 1; simp -dsimp -implicitDefEqProofs [limv, -List.getD_eq_getElem?_getD, List.getD_cons_zero, List.getD_cons_succ, -bind_assoc', -ex_asg, -ex_ite, -ex_unp, -ex_par, -ex_for, nxM_cons, ex_asgK, asgK_def, ex_iteK, iteK_t, iteK_f, ex_unpK, unpK_def, ex_parK, parK_cons, ex_forK, forK_def, forJ_def, v1, f1, f3, k2, k3]; try simp only [bind_assoc'])
    exact .pure ⟨_, rfl, by rw [len_app, len_app]; omega⟩
  (conv => arg 1; simp -dsimp -implicitDefEqProofs [limv, -List.getD_eq_getElem?_getD, List.getD_cons_zero, List.getD_cons_succ, -bind_assoc', -ex_asg, -ex_ite, -ex_unp, -ex_par, -ex_for, nxM_cons, ex_asgK, asgK_def, ex_iteK, iteK_t, iteK_f, ex_unpK, unpK_def, ex_parK, parK_cons, ex_forK, forK_def, forJ_def, v1]; try simp only [bind_assoc'])
  by_cases v2 : v = 2
  · have e2 := app2_split nl_ch (s := t) (by omega)
    have hne := split_ne t 10
    have hsum := split_sum t 10
    rw [← nl_ch] at hne hsum
    generalize Txt.split t "\n" = L at *
    have hpos : 0 < L.length := List.length_pos_iff.mpr hne
    (conv => arg 1; simp -dsimp -implicitDefEqProofs [limv, -List.getD_eq_getElem?_getD, List.getD_cons_zero, List.getD_cons_succ, -bind_assoc', -ex_asg, -ex_ite, -ex_unp, -ex_par, -ex_for, nxM_cons, ex_asgK, asgK_def, ex_iteK, iteK_t, iteK_f, ex_unpK, unpK_def, ex_parK, parK_cons, ex_forK, forK_def, forJ_def, v2, e2]; try simp only [bind_assoc'])
    refine Wp.bindB (draw_wp hns (many := (L.length : Int)) (by omega)) (by decide) fun d hd => ?_
    obtain ⟨sp, rfl, hs0, hs1⟩ := hd
    obtain ⟨A, x, B, rfl, rfl⟩ := mid_of hs0 hs1
    have hmap : (A ++ x :: B).map PyData.str = A.map PyData.str ++ PyData.str x :: B.map PyData.str := by simp
    have c1 : cut ((A ++ x :: B).map PyData.str) (some (A.length : Int)) (some ((A.length : Int) + 1)) = [PyData.str x] := by
      rw [hmap, show (A.length : Int) = ((A.map PyData.str).length : Int) by simp]
      exact cut_one _ _ _
    have c2 : atI ((A ++ x :: B).map PyData.str) (A.length : Int) = some (.str x) := by
      rw [hmap, show (A.length : Int) = ((A.map PyData.str).length : Int) by simp]
      exact at_mid _ _ _
    have c3 : app2 .mul (.list [.str x]) (.int 2) = some (.list [.str x, .str x]) := by
      show (if [PyData.str x].length * (2 : Int).toNat ≤ lim ∧ (2 : Int).natAbs < 2 ^ 60 then some (PyData.list (List.replicate (2 : Int).toNat [PyData.str x]).flatten) else none) = _
      rw [if_pos ⟨by rw [limv]; simp, by decide⟩]
      rfl
    rw [sumL_app, sumL_cons] at hsum
    have hsp : ∀ M : List Str, sumL M ≤ x.length + x.length + 12 → spliceD ((A ++ x :: B).map .str) (.list (M.map .str)) (.int (A.length : Int)) (.int ((A.length : Int) + 1)) = some ((A ++ M ++ B).map .str) ∧ sumL (A ++ M ++ B) ≤ 990 := fun M hM => by
      have q1 : A.length ≤ sumL A := by unfold sumL; omega
      have q2 : B.length ≤ sumL B := by unfold sumL; omega
      have q3 : M.length ≤ sumL M := by unfold sumL; omega
      refine ⟨splice_eq A B M x (by rw [List.length_append, List.length_cons]; omega), ?_⟩
      rw [sumL_app, sumL_app]
      omega
    have hM : ∀ d ∈ [PyData.list [], .list [.str x, .str x], .list [.str g], .list [.str g, .str x]], ∃ M : List Str, d = .list (M.map .str) ∧ sumL M ≤ x.length + x.length + 12 := by
      intro d hd
      simp only [List.mem_cons, List.not_mem_nil, or_false] at hd
      rcases hd with rfl | rfl | rfl | rfl
      · exact ⟨[], rfl, by simp [sumL]⟩
      · exact ⟨[x, x], rfl, by simp [sumL] <;> omega⟩
      · exact ⟨[g], rfl, by simp [sumL] <;> omega⟩
      · exact ⟨[g, x], rfl, by simp [sumL] <;> omega⟩
    generalize (A ++ x :: B).map PyData.str = W at *
    (conv => arg 1; simp -dsimp -implicitDefEqProofs [limv, -List.getD_eq_getElem?_getD, List.getD_cons_zero, List.getD_cons_succ, -bind_assoc', -ex_asg, -ex_ite, -ex_unp, -ex_par, -ex_for, nxM_cons, ex_asgK, asgK_def, ex_iteK, iteK_t, iteK_f, ex_unpK, unpK_def, ex_parK, parK_cons, ex_forK, forK_def, forJ_def, ex_cust', sliceF, c1, c2, c3]; try simp only [bind_assoc'])
    refine Wp.bindB (pick_wp hns (by simp)) (by decide) fun d hd => ?_
    obtain ⟨M, rfl, hm⟩ := hM d hd
    obtain ⟨h5, h6⟩ := hsp M hm
    have h7 := app2_join1 (c := 10) (l := A ++ M ++ B) (by omega)
    have h8 := join_sum 10 (A ++ M ++ B)
    rw [← nl_ch] at h7 h8
    generalize (A ++ M ++ B).map PyData.str = W2 at *
    generalize Str.join "\n" (A ++ M ++ B) = J at *
    (conv => arg 1; simp -dsimp -implicitDefEqProofs [limv, -List.getD_eq_getElem?_getD, List.getD_cons_zero, List.getD_cons_succ, -bind_assoc', -ex_asg, -ex_ite, -ex_unp, -ex_par, -ex_for, nxM_cons, ex_asgK, asgK_def, ex_iteK, iteK_t, iteK_f, ex_unpK, unpK_def, ex_parK, parK_cons, ex_forK, forK_def, forJ_def, h5, h7]; try simp only [bind_assoc'])
    exact .pure ⟨_, rfl, by omega⟩
  (conv => arg 1; simp -dsimp -implicitDefEqProofs [limv, -List.getD_eq_getElem?_getD, List.getD_cons_zero, List.getD_cons_succ, -bind_assoc', -ex_asg, -ex_ite, -ex_unp, -ex_par, -ex_for, nxM_cons, ex_asgK, asgK_def, ex_iteK, iteK_t, iteK_f, ex_unpK, unpK_def, ex_parK, parK_cons, ex_forK, forK_def, forJ_def, v2]; try simp only [bind_assoc'])
  by_cases v3 : v = 3
  · have e2 := app2_split sp_ch (s := t) (by omega)
    have hne := split_ne t 32
    have hsum := split_sum t 32
    rw [← sp_ch] at hne hsum
    generalize Txt.split t " " = L at *
    have hpos : 0 < L.length := List.length_pos_iff.mpr hne
    (conv => arg 1; simp -dsimp -implicitDefEqProofs [limv, -List.getD_eq_getElem?_getD, List.getD_cons_zero, List.getD_cons_succ, -bind_assoc', -ex_asg, -ex_ite, -ex_unp, -ex_par, -ex_for, nxM_cons, ex_asgK, asgK_def, ex_iteK, iteK_t, iteK_f, ex_unpK, unpK_def, ex_parK, parK_cons, ex_forK, forK_def, forJ_def, v3, e2]; try simp only [bind_assoc'])
    refine Wp.bindB (draw_wp hns (many := (L.length : Int)) (by omega)) (by decide) fun d hd => ?_
    obtain ⟨sp, rfl, hs0, hs1⟩ := hd
    obtain ⟨A, x, B, rfl, rfl⟩ := mid_of hs0 hs1
    have c1 : slcD (.list ((A ++ x :: B).map PyData.str)) none (some (A.length : Int)) = some (.list (A.map .str)) := by
      show some (PyData.list (cut ((A ++ x :: B).map PyData.str) none (some (A.length : Int)))) = _
      rw [cut_upto, List.map_append, show A.length = (A.map PyData.str).length by simp, List.take_left]
    have c2 : slcD (.list ((A ++ x :: B).map PyData.str)) (some (A.length : Int)) none = some (.list ((x :: B).map .str)) := by
      show some (PyData.list (cut ((A ++ x :: B).map PyData.str) (some (A.length : Int)) none)) = _
      rw [cut_lo, List.map_append, show A.length = (A.map PyData.str).length by simp, List.drop_left]
    have q1 : (A ++ x :: B).length ≤ sumL (A ++ x :: B) := by unfold sumL; omega
    have h6 : sumL (A ++ (x :: B).reverse) ≤ 477 := by
      rw [sumL_app, sumL_rev, ← sumL_app]; omega
    have c3 : app2 .add (.list (A.map .str)) (.list ((x :: B).map PyData.str).reverse) = some (.list ((A ++ (x :: B).reverse).map .str)) := by
      have h7 : (A.map PyData.str).length + ((x :: B).map PyData.str).reverse.length ≤ lim := by
        rw [List.length_append] at q1
        rw [List.length_reverse, List.length_map, List.length_map, limv]
        omega
      show (if (A.map PyData.str).length + ((x :: B).map PyData.str).reverse.length ≤ lim then some (PyData.list (A.map PyData.str ++ ((x :: B).map PyData.str).reverse)) else none) = _
      rw [if_pos h7, List.map_append, List.map_reverse]
    have h7 := app2_join1 (c := 32) (l := A ++ (x :: B).reverse) (by omega)
    have h8 := join_sum 32 (A ++ (x :: B).reverse)
    rw [← sp_ch] at h7 h8
    have c4 : app1 .rev (.list ((x :: B).map PyData.str)) = some (.list ((x :: B).map PyData.str).reverse) := rfl
    generalize (A ++ (x :: B).reverse).map PyData.str = W2 at *
    generalize Str.join " " (A ++ (x :: B).reverse) = J at *
    generalize ((x :: B).map PyData.str).reverse = W4 at *
    generalize (x :: B).map PyData.str = W3 at *
    generalize (A ++ x :: B).map PyData.str = W at *
    generalize A.map PyData.str = W1 at *
    (conv => arg 1; simp -dsimp -implicitDefEqProofs [limv, -List.getD_eq_getElem?_getD, List.getD_cons_zero, List.getD_cons_succ, -bind_assoc', -ex_asg, -ex_ite, -ex_unp, -ex_par, -ex_for, nxM_cons, ex_asgK, asgK_def, ex_iteK, iteK_t, iteK_f, ex_unpK, unpK_def, ex_parK, parK_cons, ex_forK, forK_def, forJ_def, c1, c2, c4, c3, h7]; try simp only [bind_assoc'])
    exact .pure ⟨_, rfl, by omega⟩
  (conv => arg 1; simp -dsimp -implicitDefEqProofs [limv, -List.getD_eq_getElem?_getD, List.getD_cons_zero, List.getD_cons_succ, -bind_assoc', -ex_asg, -ex_ite, -ex_unp, -ex_par, -ex_for, nxM_cons, ex_asgK, asgK_def, ex_iteK, iteK_t, iteK_f, ex_unpK, unpK_def, ex_parK, parK_cons, ex_forK, forK_def, forJ_def, v3, f1, f2, k2, k4]; try simp only [bind_assoc'])
  exact .pure ⟨_, rfl, by rw [len_app, len_app]; omega⟩
end
end TK.P
namespace TK.P
open PySem TK L2
section
variable {s t k : Str} {p q : List Lock} {r : List Bool}
theorem ppo_cases (ht : t.length ≤ 990) : (∃ q, OkP q ∧ t = plantS q) ∨ (f__law_parse_plant_or [.str t] = pure (.str "ParseError") ∧ ∀ q, OkP q → t ≠ plantS q) := by
  by_cases h : ∃ q, OkP q ∧ t = plantS q
  · exact .inl h
  · have h2 : ∀ q, OkP q → t ≠ plantS q := fun q oq e => h ⟨q, oq, e⟩
    exact .inr ⟨ppo_no ht fun q oq e => h2 q oq e.symm, h2⟩
theorem pso_cases (ok : OkP p) (ht : t.length ≤ 990) : (∃ r', IsS p r' ∧ t = stateS p r') ∨ (f__law_parse_state_or [plantD p, .str t] = pure (.str "ParseError") ∧ ∀ r', IsS p r' → t ≠ stateS p r') := by
  by_cases h : ∃ r', IsS p r' ∧ t = stateS p r'
  · exact .inl h
  · have h2 : ∀ r', IsS p r' → t ≠ stateS p r' := fun r' hr e => h ⟨r', hr, e⟩
    refine .inr ⟨?_, h2⟩
    refine or_throw (c := "ParseError") ?_ rfl rfl rfl
    rw [parse_state_all ok ht]
    have hc : (isSt p (rowD (wordsB t)) && decide (stateS p (wordsB t) = t)) = false := by
      rw [Bool.and_eq_false_iff]
      by_cases hs : isSt p (rowD (wordsB t)) = true
      · exact .inr (decide_eq_false fun e => h2 _ (isS_iff.mp hs) e.symm)
      · exact .inl (by simpa using hs)
    rw [hc]; rfl
end
end TK.P
namespace TK.KK
open PySem PySem.Spec PyProof.Rows L2 TK TK.P
/-- the texts that a list of the body's first statement names -/
def textsOf : List TK.S → List Str
  | .asg _ _ (.lst es) :: _ => es.filterMap fun e => match e with
    | .con (.str s) => some s
    | _ => none
  | _ => []
def signsL : List Str := textsOf b_law.body
theorem signs_len : ∀ s ∈ signsL, s.length ≤ 4 := fun s hs => by
  have : signsL.all (fun s => decide (s.length ≤ 4)) = true := by kernel_rfl
  simpa using List.all_eq_true.mp this s hs
theorem signs_ne : signsL ≠ [] := by
  have : signsL.isEmpty = false := by kernel_rfl
  intro h
  rw [h] at this
  cases this
theorem law_run : ∀ ns : List Int, ns.length ≤ 63 → ∃ e st', exs [f__law_some, f_format_plant, f_format_state, (f__law_same deep), f_parse_plant, f_parse_state, f__law_spoiled, f__law_parse_plant_or, f__law_parse_state_or, f__law_refused_k29] b_law.body (lawEnv 13 1 ns) [] = some (.ok (.rt (.bool true), e), st') := by
  intro ns hns
  refine law_end ?_
  (conv => arg 1; simp -dsimp -implicitDefEqProofs [limv, -List.getD_eq_getElem?_getD, List.getD_cons_zero, List.getD_cons_succ, -bind_assoc', -ex_asg, -ex_ite, -ex_unp, -ex_par, -ex_for, nxM_cons, ex_asgK, asgK_def, ex_iteK, iteK_t, iteK_f, ex_unpK, unpK_def, ex_parK, parK_cons, ex_forK, forK_def, forJ_def, b_law, lawEnv, rangeL]; try simp only [bind_assoc'])
  refine Wp.forI _ (fun (env : Env) => ∃ slot3 slot4 slot5 slot6 slot7 slot8 slot9 slot10 slot11 slot12, env = [.val (scr ns), .val tok, .val (.list (signsL.map .str)), slot3, slot4, slot5, slot6, slot7, slot8, slot9, slot10, slot11, slot12]) 9200 (by ((repeat apply Exists.intro); rfl)) (by simp) ?_ ?_
  · intro a _ env hI
    (repeat obtain ⟨_, hI⟩ := hI)
    refine ⟨_, rfl, ?_⟩
    (conv => arg 1; simp -dsimp -implicitDefEqProofs [limv, -List.getD_eq_getElem?_getD, List.getD_cons_zero, List.getD_cons_succ, -bind_assoc', -ex_asg, -ex_ite, -ex_unp, -ex_par, -ex_for, nxM_cons, ex_asgK, asgK_def, ex_iteK, iteK_t, iteK_f, ex_unpK, unpK_def, ex_parK, parK_cons, ex_forK, forK_def, forJ_def]; try simp only [bind_assoc'])
    refine Wp.bindB (some_wp hns (m := 7) (by decide) (by decide)) (by decide) fun d hd => ?_
    obtain ⟨p, r, rfl, hp, hr⟩ := hd
    have ok := hp.ok (by decide)
    have h7 := hp.len
    have hs : IsS p r := mem_states.mp hr
    have hl := hs.len
    have e1 := format_plant_eq ok
    have e2 := format_state_eq ok hs.st hl
    have e3 := parse_plant_eq ok
    have e4 := parse_state_eq ok hs
    have e5 := same_plant p
    have e6 : f__law_same deep [rowD r, rowD r] = pure (.bool true) := same_refl 2 deep _ (by decide) (by simp [P.plain, rowD, bD])
    have e7 := refused_eq (r := r) ok h7
    have lT := plantS_len7 ok h7
    have lS := stateS_len ok r
    (conv => arg 1; simp -dsimp -implicitDefEqProofs [limv, -List.getD_eq_getElem?_getD, List.getD_cons_zero, List.getD_cons_succ, -bind_assoc', -ex_asg, -ex_ite, -ex_unp, -ex_par, -ex_for, nxM_cons, ex_asgK, asgK_def, ex_iteK, iteK_t, iteK_f, ex_unpK, unpK_def, ex_parK, parK_cons, ex_forK, forK_def, forJ_def, someD, e1, e2, e3, e4, e5, e6, rangeL]; try simp only [bind_assoc'])
    refine Wp.forI _ (fun (env : Env) => ∃ slot3 slot4 slot6 slot10 slot11 slot12, env = [.val (scr ns), .val tok, .val (.list (signsL.map .str)), slot3, slot4, .val (plantD p), slot6, .val (rowD r), .val (.str (plantS p)), .val (.str (stateS p r)), slot10, slot11, slot12]) 20 (by ((repeat apply Exists.intro); rfl)) (by simp) ?_ ?_
    · intro b _ env hI
      (repeat obtain ⟨_, hI⟩ := hI)
      refine ⟨_, rfl, ?_⟩
      (conv => arg 1; simp -dsimp -implicitDefEqProofs [limv, -List.getD_eq_getElem?_getD, List.getD_cons_zero, List.getD_cons_succ, -bind_assoc', -ex_asg, -ex_ite, -ex_unp, -ex_par, -ex_for, nxM_cons, ex_asgK, asgK_def, ex_iteK, iteK_t, iteK_f, ex_unpK, unpK_def, ex_parK, parK_cons, ex_forK, forK_def, forJ_def]; try simp only [bind_assoc'])
      refine Wp.bindB (spoiled_wp hns lT (sg := signsL) signs_ne signs_len) (by decide) fun d hd => ?_
      obtain ⟨t, rfl, ht⟩ := hd
      (conv => arg 1; simp -dsimp -implicitDefEqProofs [limv, -List.getD_eq_getElem?_getD, List.getD_cons_zero, List.getD_cons_succ, -bind_assoc', -ex_asg, -ex_ite, -ex_unp, -ex_par, -ex_for, nxM_cons, ex_asgK, asgK_def, ex_iteK, iteK_t, iteK_f, ex_unpK, unpK_def, ex_parK, parK_cons, ex_forK, forK_def, forJ_def]; try simp only [bind_assoc'])
      refine Wp.bindB (spoiled_wp hns (t := stateS p r) (by omega) (sg := signsL) signs_ne signs_len) (by decide) fun d hd => ?_
      obtain ⟨u, rfl, hu⟩ := hd
      (conv => arg 1; simp -dsimp -implicitDefEqProofs [limv, -List.getD_eq_getElem?_getD, List.getD_cons_zero, List.getD_cons_succ, -bind_assoc', -ex_asg, -ex_ite, -ex_unp, -ex_par, -ex_for, nxM_cons, ex_asgK, asgK_def, ex_iteK, iteK_t, iteK_f, ex_unpK, unpK_def, ex_parK, parK_cons, ex_forK, forK_def, forJ_def]; try simp only [bind_assoc'])
      rcases ppo_cases ht with ⟨q, oq, rfl⟩ | ⟨g1, g2⟩
      · have g1 := ppo_yes oq
        have g2 := format_plant_eq oq
        have g3 : typ .tuple (plantD q) = some true := rfl
        have g4 : eqD (.str (plantS q)) (.str (plantS q)) = some true := by rw [eqD_strS]; simp
        (conv => arg 1; simp -dsimp -implicitDefEqProofs [limv, -List.getD_eq_getElem?_getD, List.getD_cons_zero, List.getD_cons_succ, -bind_assoc', -ex_asg, -ex_ite, -ex_unp, -ex_par, -ex_for, nxM_cons, ex_asgK, asgK_def, ex_iteK, iteK_t, iteK_f, ex_unpK, unpK_def, ex_parK, parK_cons, ex_forK, forK_def, forJ_def, g1, g2, g3, g4]; try simp only [bind_assoc'])
        rcases pso_cases ok hu with ⟨r', hr', rfl⟩ | ⟨h1, h2⟩
        · have h1 := pso_yes ok hr'
          have h2 := format_state_eq ok hr'.st hr'.len
          have h3 : typ .tuple (rowD r') = some true := rfl
          have h4 : eqD (.str (stateS p r')) (.str (stateS p r')) = some true := by rw [eqD_strS]; simp
          (conv => arg 1; simp -dsimp -implicitDefEqProofs [limv, -List.getD_eq_getElem?_getD, List.getD_cons_zero, List.getD_cons_succ, -bind_assoc', -ex_asg, -ex_ite, -ex_unp, -ex_par, -ex_for, nxM_cons, ex_asgK, asgK_def, ex_iteK, iteK_t, iteK_f, ex_unpK, unpK_def, ex_parK, parK_cons, ex_forK, forK_def, forJ_def, h1, h2, h3, h4]; try simp only [bind_assoc'])
          exact .pure ⟨rfl, by ((repeat apply Exists.intro); rfl)⟩
        · have h3 : typ .tuple (.str "ParseError") = some false := rfl
          have h4 : eqD (.str "ParseError") (.str "ParseError") = some true := by rw [eqD_strS]; simp
          have h5 : eqD (.str u) (.str (stateS p r)) = some false := by rw [eqD_strS, decide_eq_false (h2 r hs)]
          (conv => arg 1; simp -dsimp -implicitDefEqProofs [limv, -List.getD_eq_getElem?_getD, List.getD_cons_zero, List.getD_cons_succ, -bind_assoc', -ex_asg, -ex_ite, -ex_unp, -ex_par, -ex_for, nxM_cons, ex_asgK, asgK_def, ex_iteK, iteK_t, iteK_f, ex_unpK, unpK_def, ex_parK, parK_cons, ex_forK, forK_def, forJ_def, h1, h3, h4, h5]; try simp only [bind_assoc'])
          exact .pure ⟨rfl, by ((repeat apply Exists.intro); rfl)⟩
      · have g3 : typ .tuple (.str "ParseError") = some false := rfl
        have g4 : eqD (.str "ParseError") (.str "ParseError") = some true := by rw [eqD_strS]; simp
        have g5 : eqD (.str t) (.str (plantS p)) = some false := by rw [eqD_strS, decide_eq_false (g2 p ok)]
        (conv => arg 1; simp -dsimp -implicitDefEqProofs [limv, -List.getD_eq_getElem?_getD, List.getD_cons_zero, List.getD_cons_succ, -bind_assoc', -ex_asg, -ex_ite, -ex_unp, -ex_par, -ex_for, nxM_cons, ex_asgK, asgK_def, ex_iteK, iteK_t, iteK_f, ex_unpK, unpK_def, ex_parK, parK_cons, ex_forK, forK_def, forJ_def, g1, g3, g4, g5]; try simp only [bind_assoc'])
        rcases pso_cases ok hu with ⟨r', hr', rfl⟩ | ⟨h1, h2⟩
        · have h1 := pso_yes ok hr'
          have h2 := format_state_eq ok hr'.st hr'.len
          have h3 : typ .tuple (rowD r') = some true := rfl
          have h4 : eqD (.str (stateS p r')) (.str (stateS p r')) = some true := by rw [eqD_strS]; simp
          (conv => arg 1; simp -dsimp -implicitDefEqProofs [limv, -List.getD_eq_getElem?_getD, List.getD_cons_zero, List.getD_cons_succ, -bind_assoc', -ex_asg, -ex_ite, -ex_unp, -ex_par, -ex_for, nxM_cons, ex_asgK, asgK_def, ex_iteK, iteK_t, iteK_f, ex_unpK, unpK_def, ex_parK, parK_cons, ex_forK, forK_def, forJ_def, h1, h2, h3, h4]; try simp only [bind_assoc'])
          exact .pure ⟨rfl, by ((repeat apply Exists.intro); rfl)⟩
        · have h3 : typ .tuple (.str "ParseError") = some false := rfl
          have h4 : eqD (.str "ParseError") (.str "ParseError") = some true := by rw [eqD_strS]; simp
          have h5 : eqD (.str u) (.str (stateS p r)) = some false := by rw [eqD_strS, decide_eq_false (h2 r hs)]
          (conv => arg 1; simp -dsimp -implicitDefEqProofs [limv, -List.getD_eq_getElem?_getD, List.getD_cons_zero, List.getD_cons_succ, -bind_assoc', -ex_asg, -ex_ite, -ex_unp, -ex_par, -ex_for, nxM_cons, ex_asgK, asgK_def, ex_iteK, iteK_t, iteK_f, ex_unpK, unpK_def, ex_parK, parK_cons, ex_forK, forK_def, forJ_def, h1, h3, h4, h5]; try simp only [bind_assoc'])
          exact .pure ⟨rfl, by ((repeat apply Exists.intro); rfl)⟩
    · intro env hI
      (repeat obtain ⟨_, hI⟩ := hI)
      (conv => arg 1; simp -dsimp -implicitDefEqProofs [limv, -List.getD_eq_getElem?_getD, List.getD_cons_zero, List.getD_cons_succ, -bind_assoc', -ex_asg, -ex_ite, -ex_unp, -ex_par, -ex_for, nxM_cons, ex_asgK, asgK_def, ex_iteK, iteK_t, iteK_f, ex_unpK, unpK_def, ex_parK, parK_cons, ex_forK, forK_def, forJ_def, e7]; try simp only [bind_assoc'])
      exact .pure ⟨rfl, by ((repeat apply Exists.intro); rfl)⟩
  · intro env hI
    (repeat obtain ⟨_, hI⟩ := hI)
    (conv => arg 1; simp -dsimp -implicitDefEqProofs [limv, -List.getD_eq_getElem?_getD, List.getD_cons_zero, List.getD_cons_succ, -bind_assoc', -ex_asg, -ex_ite, -ex_unp, -ex_par, -ex_for, nxM_cons, ex_asgK, asgK_def, ex_iteK, iteK_t, iteK_f, ex_unpK, unpK_def, ex_parK, parK_cons, ex_forK, forK_def, forJ_def]; try simp only [bind_assoc'])
    exact .pure rfl
def dd (x : Str) (i : Nat) : He.DefD := ⟨(x, none), x, x, defArgs (top i), defBody (top i), defScope (top i), [], []⟩
def fn : List He.DefD := [dd "is_integer" 6, dd "is_ascending" 7, dd "is_word" 8, dd "are_keys" 9, dd "is_lock" 10, dd "is_plant" 11, dd "require_plant" 12, dd "held_by" 13, dd "are_places" 14, dd "fits" 15, dd "is_valid_state" 16, dd "require_state" 17, dd "with_spaces" 19, dd "plant_text" 20, dd "format_plant" 21, dd "parse_lock" 22, dd "parse_plant" 23, dd "state_text" 24, dd "format_state" 25, dd "parse_state" 26, dd "_law_same" 28, dd "_law_draw" 29, dd "_law_pick" 30, dd "_law_shuffled" 31, dd "_law_spoiled" 32, dd "_law_plant" 33, dd "_law_fits" 34, dd "_law_vectors" 35, dd "_law_states" 36, dd "_law_some" 37, dd "_law_refused" 38, dd "_law_parse_plant_or" 39, dd "_law_parse_state_or" 40, dd "law" 41]
def fa : List He.Fa := ([.glo "is_integer", .glo "is_ascending", .glo "is_word", .glo "are_keys", .glo "is_lock", .glo "is_plant", .glo "require_plant", .glo "held_by", .glo "are_places", .glo "fits", .glo "is_valid_state", .glo "require_state", .glo "with_spaces", .glo "plant_text", .glo "format_plant", .glo "parse_lock", .glo "parse_plant", .glo "state_text", .glo "format_state", .glo "parse_state", .glo "_law_same", .glo "_law_draw", .glo "_law_pick", .glo "_law_shuffled", .glo "_law_spoiled", .glo "_law_plant", .glo "_law_fits", .glo "_law_vectors", .glo "_law_states", .glo "_law_some", .glo "_law_refused", .glo "_law_parse_plant_or", .glo "_law_parse_state_or", .glo "law", .free "len", .free "range", .free "zip", .free "enumerate", .free "all", .free "any"] : List He.Fa) ++ ([.free "abs", .free "tuple", .free "list", .free "str", .free "int", .free "sorted", .free "set", .free "min", .free "max", .free "sum", .free "isinstance", .free "bool", .free "dict", .glo "InvalidPlant", .glo "InvalidState", .glo "ParseError", .exc "InvalidPlant", .exc "InvalidState", .exc "ParseError", .exm "InvalidPlant" "InvalidPlant" true, .exm "InvalidPlant" "InvalidState" false, .exm "InvalidPlant" "ParseError" false, .exm "InvalidState" "InvalidPlant" false, .exm "InvalidState" "InvalidState" true, .exm "InvalidState" "ParseError" false, .exm "ParseError" "InvalidPlant" false, .exm "ParseError" "InvalidState" false, .exm "ParseError" "ParseError" true] : List He.Fa)
abbrev R : PySem.W.OpenRow := PySem.W.OpenLaw.row PySem.Challenge.rw_trappedkeys_k29_whole_there_and_back
abbrev hk : PySem.W.Hook := He.hookD 4 fa fn
def ob (s : PySem.W.SharedT) : He.AlD := He.obsDG 4 fa fn (HandSHeadRun.getT s)
theorem ob_eq (s : PySem.W.SharedT) : ob s = hk.obs s.abs := He.obsDG_eq (HandSHeadRun.getT_eq s)
def loose : List Str := (["KeyRingError", "InvalidPlant", "InvalidState", "ParseError", "is_integer", "is_ascending", "is_word", "are_keys", "is_lock", "is_plant", "require_plant", "held_by", "are_places", "fits", "is_valid_state", "require_state", "with_spaces", "plant_text", "format_plant", "parse_lock", "parse_plant", "state_text", "format_state", "parse_state", "_law_same", "_law_draw", "_law_pick", "_law_shuffled", "_law_spoiled", "_law_plant"] : List Str) ++ (["_law_fits", "_law_vectors", "_law_states", "_law_some", "_law_refused", "_law_parse_plant_or", "_law_parse_state_or"] : List Str)
theorem hrun (w : World) : HandSHeadRun.RunEq R (PySem.W.view R.prog [41]) hk ob 4000 loose w := by
  intro os
  kernel_rfl
theorem facts {P : Program} {w : World} {K : PySem.W.Frag} {h : Heap} {mg : Str → Option Value} {f : Addr} (X : K.In h) (G : h.Ns mainGlobals mg) (hfa : mg ("law" : Str) = some (.ref f)) (c : He.SaysD fa fn K) :
    ∃ fd : FuncData, (∀ (s : Shared) (v : Value), BindsTo s fd ⟨[v], []⟩ [("script", v)]) ∧ ∀ base : Heap, K.In base → base.Ns mainGlobals mg → FnOk P w K mg base CX0 11 f fd ["script"] (spLaw K 63) := by
  have hB : Blt mg := by
    intro x hx
    simp only [bltNames, List.mem_cons, List.not_mem_nil, or_false] at hx
    rcases hx with rfl | rfl | rfl | rfl | rfl | rfl | rfl | rfl | rfl | rfl | rfl | rfl | rfl | rfl | rfl | rfl | rfl | rfl | rfl
    · exact He.free_ok X G (c.fact 34 (f := .free "len") rfl)
    · exact He.free_ok X G (c.fact 35 (f := .free "range") rfl)
    · exact He.free_ok X G (c.fact 36 (f := .free "zip") rfl)
    · exact He.free_ok X G (c.fact 37 (f := .free "enumerate") rfl)
    · exact He.free_ok X G (c.fact 38 (f := .free "all") rfl)
    · exact He.free_ok X G (c.fact 39 (f := .free "any") rfl)
    · exact He.free_ok X G (c.fact 40 (f := .free "abs") rfl)
    · exact He.free_ok X G (c.fact 41 (f := .free "tuple") rfl)
    · exact He.free_ok X G (c.fact 42 (f := .free "list") rfl)
    · exact He.free_ok X G (c.fact 43 (f := .free "str") rfl)
    · exact He.free_ok X G (c.fact 44 (f := .free "int") rfl)
    · exact He.free_ok X G (c.fact 45 (f := .free "sorted") rfl)
    · exact He.free_ok X G (c.fact 46 (f := .free "set") rfl)
    · exact He.free_ok X G (c.fact 47 (f := .free "min") rfl)
    · exact He.free_ok X G (c.fact 48 (f := .free "max") rfl)
    · exact He.free_ok X G (c.fact 49 (f := .free "sum") rfl)
    · exact He.free_ok X G (c.fact 50 (f := .free "isinstance") rfl)
    · exact He.free_ok X G (c.fact 51 (f := .free "bool") rfl)
    · exact He.free_ok X G (c.fact 52 (f := .free "dict") rfl)
  have gE0 := He.glo_ok X G (c.fact 53 (f := .glo "InvalidPlant") rfl)
  obtain ⟨xa0, xb0, xc0, xd0⟩ := He.exc_ok (c.fact 56 (f := .exc "InvalidPlant") rfl)
  have gE1 := He.glo_ok X G (c.fact 54 (f := .glo "InvalidState") rfl)
  obtain ⟨xa1, xb1, xc1, xd1⟩ := He.exc_ok (c.fact 57 (f := .exc "InvalidState") rfl)
  have gE2 := He.glo_ok X G (c.fact 55 (f := .glo "ParseError") rfl)
  obtain ⟨xa2, xb2, xc2, xd2⟩ := He.exc_ok (c.fact 58 (f := .exc "ParseError") rfl)
  have hX : XC K mg exL := by
    constructor
    · intro c hc
      simp only [exL, List.mem_cons, List.not_mem_nil, or_false] at hc
      rcases hc with rfl | rfl | rfl
      · exact ⟨_, gE0, xa0, xb0, xc0, xd0⟩
      · exact ⟨_, gE1, xa1, xb1, xc1, xd1⟩
      · exact ⟨_, gE2, xa2, xb2, xc2, xd2⟩
    · intro c hc d hd A B hA hB
      simp only [exL, List.mem_cons, List.not_mem_nil, or_false] at hc hd
      rcases hc with rfl | rfl | rfl <;> rcases hd with rfl | rfl | rfl
      · cases gE0.symm.trans hA; cases gE0.symm.trans hB; exact (He.exm_ok (c.fact 59 (f := .exm "InvalidPlant" "InvalidPlant" true) rfl)).trans (congrArg some (by decide +kernel))
      · cases gE0.symm.trans hA; cases gE1.symm.trans hB; exact (He.exm_ok (c.fact 60 (f := .exm "InvalidPlant" "InvalidState" false) rfl)).trans (congrArg some (by decide +kernel))
      · cases gE0.symm.trans hA; cases gE2.symm.trans hB; exact (He.exm_ok (c.fact 61 (f := .exm "InvalidPlant" "ParseError" false) rfl)).trans (congrArg some (by decide +kernel))
      · cases gE1.symm.trans hA; cases gE0.symm.trans hB; exact (He.exm_ok (c.fact 62 (f := .exm "InvalidState" "InvalidPlant" false) rfl)).trans (congrArg some (by decide +kernel))
      · cases gE1.symm.trans hA; cases gE1.symm.trans hB; exact (He.exm_ok (c.fact 63 (f := .exm "InvalidState" "InvalidState" true) rfl)).trans (congrArg some (by decide +kernel))
      · cases gE1.symm.trans hA; cases gE2.symm.trans hB; exact (He.exm_ok (c.fact 64 (f := .exm "InvalidState" "ParseError" false) rfl)).trans (congrArg some (by decide +kernel))
      · cases gE2.symm.trans hA; cases gE0.symm.trans hB; exact (He.exm_ok (c.fact 65 (f := .exm "ParseError" "InvalidPlant" false) rfl)).trans (congrArg some (by decide +kernel))
      · cases gE2.symm.trans hA; cases gE1.symm.trans hB; exact (He.exm_ok (c.fact 66 (f := .exm "ParseError" "InvalidState" false) rfl)).trans (congrArg some (by decide +kernel))
      · cases gE2.symm.trans hA; cases gE2.symm.trans hB; exact (He.exm_ok (c.fact 67 (f := .exm "ParseError" "ParseError" true) rfl)).trans (congrArg some (by decide +kernel))
  obtain ⟨fd_is_integer, F_is_integer⟩ := c.def_ 0 (d := dd "is_integer" 6) rfl
  obtain ⟨fd_is_ascending, F_is_ascending⟩ := c.def_ 1 (d := dd "is_ascending" 7) rfl
  obtain ⟨fd_is_word, F_is_word⟩ := c.def_ 2 (d := dd "is_word" 8) rfl
  obtain ⟨fd_are_keys, F_are_keys⟩ := c.def_ 3 (d := dd "are_keys" 9) rfl
  obtain ⟨fd_is_lock, F_is_lock⟩ := c.def_ 4 (d := dd "is_lock" 10) rfl
  obtain ⟨fd_is_plant, F_is_plant⟩ := c.def_ 5 (d := dd "is_plant" 11) rfl
  obtain ⟨fd_require_plant, F_require_plant⟩ := c.def_ 6 (d := dd "require_plant" 12) rfl
  obtain ⟨fd_held_by, F_held_by⟩ := c.def_ 7 (d := dd "held_by" 13) rfl
  obtain ⟨fd_are_places, F_are_places⟩ := c.def_ 8 (d := dd "are_places" 14) rfl
  obtain ⟨fd_fits, F_fits⟩ := c.def_ 9 (d := dd "fits" 15) rfl
  obtain ⟨fd_is_valid_state, F_is_valid_state⟩ := c.def_ 10 (d := dd "is_valid_state" 16) rfl
  obtain ⟨fd_require_state, F_require_state⟩ := c.def_ 11 (d := dd "require_state" 17) rfl
  obtain ⟨fd_with_spaces, F_with_spaces⟩ := c.def_ 12 (d := dd "with_spaces" 19) rfl
  obtain ⟨fd_plant_text, F_plant_text⟩ := c.def_ 13 (d := dd "plant_text" 20) rfl
  obtain ⟨fd_format_plant, F_format_plant⟩ := c.def_ 14 (d := dd "format_plant" 21) rfl
  obtain ⟨fd_parse_lock, F_parse_lock⟩ := c.def_ 15 (d := dd "parse_lock" 22) rfl
  obtain ⟨fd_parse_plant, F_parse_plant⟩ := c.def_ 16 (d := dd "parse_plant" 23) rfl
  obtain ⟨fd_state_text, F_state_text⟩ := c.def_ 17 (d := dd "state_text" 24) rfl
  obtain ⟨fd_format_state, F_format_state⟩ := c.def_ 18 (d := dd "format_state" 25) rfl
  obtain ⟨fd_parse_state, F_parse_state⟩ := c.def_ 19 (d := dd "parse_state" 26) rfl
  obtain ⟨fd__law_same, F__law_same⟩ := c.def_ 20 (d := dd "_law_same" 28) rfl
  obtain ⟨fd__law_draw, F__law_draw⟩ := c.def_ 21 (d := dd "_law_draw" 29) rfl
  obtain ⟨fd__law_pick, F__law_pick⟩ := c.def_ 22 (d := dd "_law_pick" 30) rfl
  obtain ⟨fd__law_shuffled, F__law_shuffled⟩ := c.def_ 23 (d := dd "_law_shuffled" 31) rfl
  obtain ⟨fd__law_spoiled, F__law_spoiled⟩ := c.def_ 24 (d := dd "_law_spoiled" 32) rfl
  obtain ⟨fd__law_plant, F__law_plant⟩ := c.def_ 25 (d := dd "_law_plant" 33) rfl
  obtain ⟨fd__law_fits, F__law_fits⟩ := c.def_ 26 (d := dd "_law_fits" 34) rfl
  obtain ⟨fd__law_vectors, F__law_vectors⟩ := c.def_ 27 (d := dd "_law_vectors" 35) rfl
  obtain ⟨fd__law_states, F__law_states⟩ := c.def_ 28 (d := dd "_law_states" 36) rfl
  obtain ⟨fd__law_some, F__law_some⟩ := c.def_ 29 (d := dd "_law_some" 37) rfl
  obtain ⟨fd__law_refused, F__law_refused⟩ := c.def_ 30 (d := dd "_law_refused" 38) rfl
  obtain ⟨fd__law_parse_plant_or, F__law_parse_plant_or⟩ := c.def_ 31 (d := dd "_law_parse_plant_or" 39) rfl
  obtain ⟨fd__law_parse_state_or, F__law_parse_state_or⟩ := c.def_ 32 (d := dd "_law_parse_state_or" 40) rfl
  obtain ⟨fd_law, F_law⟩ := c.def_ 33 (d := dd "law" 41) rfl
  have e := hfa.symm.trans (He.glo_ok X G (c.fact 33 (f := .glo "law") rfl))
  cases e
  have b := FunD.bindsA (ps := ["script"]) F_law fun _ _ _ _ _ _ us hl => match us, hl with | [_], _ => rfl
  refine ⟨fd_law, fun s v => b s [v] rfl, fun base _ _ => ?_⟩
  have G_is_integer : FnGood P w K mg base 1 "is_integer" f_is_integer := w_is_integer (k := 0) hB hX F_is_integer (He.glo_ok X G (c.fact 0 (f := .glo "is_integer") rfl)) 
  have G_is_ascending : FnGood P w K mg base 1 "is_ascending" f_is_ascending := w_is_ascending (k := 0) hB hX F_is_ascending (He.glo_ok X G (c.fact 1 (f := .glo "is_ascending") rfl)) 
  have G_is_word : FnGood P w K mg base 1 "is_word" f_is_word := w_is_word (k := 0) hB hX F_is_word (He.glo_ok X G (c.fact 2 (f := .glo "is_word") rfl)) 
  have G_held_by : FnGood P w K mg base 1 "held_by" f_held_by := w_held_by (k := 0) hB hX F_held_by (He.glo_ok X G (c.fact 7 (f := .glo "held_by") rfl)) 
  have G_with_spaces : FnGood P w K mg base 1 "with_spaces" f_with_spaces := w_with_spaces (k := 0) hB hX F_with_spaces (He.glo_ok X G (c.fact 12 (f := .glo "with_spaces") rfl)) 
  have G_parse_lock : FnGood P w K mg base 1 "parse_lock" f_parse_lock := w_parse_lock (k := 0) hB hX F_parse_lock (He.glo_ok X G (c.fact 15 (f := .glo "parse_lock") rfl)) 
  have G_state_text : FnGood P w K mg base 1 "state_text" f_state_text := w_state_text (k := 0) hB hX F_state_text (He.glo_ok X G (c.fact 17 (f := .glo "state_text") rfl)) 
  have G__law_draw : FnGood P w K mg base 1 "_law_draw" f__law_draw := w__law_draw (k := 0) hB hX F__law_draw (He.glo_ok X G (c.fact 21 (f := .glo "_law_draw") rfl)) 
  have G__law_fits : FnGood P w K mg base 1 "_law_fits" f__law_fits := w__law_fits (k := 0) hB hX F__law_fits (He.glo_ok X G (c.fact 26 (f := .glo "_law_fits") rfl)) 
  have G__law_vectors : FnGood P w K mg base 1 "_law_vectors" f__law_vectors := w__law_vectors (k := 0) hB hX F__law_vectors (He.glo_ok X G (c.fact 27 (f := .glo "_law_vectors") rfl)) 
  have G_are_keys : FnGood P w K mg base 2 "are_keys" f_are_keys := w_are_keys (k := 1) hB hX F_are_keys (He.glo_ok X G (c.fact 3 (f := .glo "are_keys") rfl)) (G_is_word.mono (by decide)) (G_is_ascending.mono (by decide))
  have G_are_places : FnGood P w K mg base 2 "are_places" f_are_places := w_are_places (k := 1) hB hX F_are_places (He.glo_ok X G (c.fact 8 (f := .glo "are_places") rfl)) (G_is_integer.mono (by decide))
  have G_fits : FnGood P w K mg base 2 "fits" f_fits := w_fits (k := 1) hB hX F_fits (He.glo_ok X G (c.fact 9 (f := .glo "fits") rfl)) (G_held_by.mono (by decide))
  have G_plant_text : FnGood P w K mg base 2 "plant_text" f_plant_text := w_plant_text (k := 1) hB hX F_plant_text (He.glo_ok X G (c.fact 13 (f := .glo "plant_text") rfl)) (G_with_spaces.mono (by decide))
  have G__law_pick : FnGood P w K mg base 2 "_law_pick" f__law_pick := w__law_pick (k := 1) hB hX F__law_pick (He.glo_ok X G (c.fact 22 (f := .glo "_law_pick") rfl)) (G__law_draw.mono (by decide))
  have G__law_shuffled : FnGood P w K mg base 2 "_law_shuffled" f__law_shuffled := w__law_shuffled (k := 1) hB hX F__law_shuffled (He.glo_ok X G (c.fact 23 (f := .glo "_law_shuffled") rfl)) (G__law_draw.mono (by decide))
  have G__law_states : FnGood P w K mg base 2 "_law_states" f__law_states := w__law_states (k := 1) hB hX F__law_states (He.glo_ok X G (c.fact 28 (f := .glo "_law_states") rfl)) (G__law_vectors.mono (by decide)) (G__law_fits.mono (by decide))
  have G_is_lock : FnGood P w K mg base 3 "is_lock" f_is_lock := w_is_lock (k := 2) hB hX F_is_lock (He.glo_ok X G (c.fact 4 (f := .glo "is_lock") rfl)) (G_is_word.mono (by decide)) (G_are_keys.mono (by decide))
  have G_is_valid_state : FnGood P w K mg base 3 "is_valid_state" f_is_valid_state := w_is_valid_state (k := 2) hB hX F_is_valid_state (He.glo_ok X G (c.fact 10 (f := .glo "is_valid_state") rfl)) (G_are_places.mono (by decide)) (G_fits.mono (by decide))
  have G__law_spoiled : FnGood P w K mg base 3 "_law_spoiled" f__law_spoiled := w__law_spoiled (k := 2) hB hX F__law_spoiled (He.glo_ok X G (c.fact 24 (f := .glo "_law_spoiled") rfl)) (G__law_draw.mono (by decide)) (G__law_pick.mono (by decide))
  have G__law_plant : FnGood P w K mg base 3 "_law_plant" f__law_plant := w__law_plant (k := 2) hB hX F__law_plant (He.glo_ok X G (c.fact 25 (f := .glo "_law_plant") rfl)) (G__law_shuffled.mono (by decide)) (G__law_draw.mono (by decide)) (G__law_pick.mono (by decide))
  have G_is_plant : FnGood P w K mg base 4 "is_plant" f_is_plant := w_is_plant (k := 3) hB hX F_is_plant (He.glo_ok X G (c.fact 5 (f := .glo "is_plant") rfl)) (G_is_lock.mono (by decide)) (G_is_ascending.mono (by decide))
  have G__law_some : FnGood P w K mg base 4 "_law_some" f__law_some := w__law_some (k := 3) hB hX F__law_some (He.glo_ok X G (c.fact 29 (f := .glo "_law_some") rfl)) (G__law_plant.mono (by decide)) (G__law_states.mono (by decide)) (G__law_pick.mono (by decide))
  have G_require_plant : FnGood P w K mg base 5 "require_plant" f_require_plant := w_require_plant (k := 4) hB hX F_require_plant (He.glo_ok X G (c.fact 6 (f := .glo "require_plant") rfl)) (G_is_plant.mono (by decide))
  have G_parse_plant : FnGood P w K mg base 5 "parse_plant" f_parse_plant := w_parse_plant (k := 4) hB hX F_parse_plant (He.glo_ok X G (c.fact 16 (f := .glo "parse_plant") rfl)) (G_parse_lock.mono (by decide)) (G_is_plant.mono (by decide)) (G_plant_text.mono (by decide))
  have G_require_state : FnGood P w K mg base 6 "require_state" f_require_state := w_require_state (k := 5) hB hX F_require_state (He.glo_ok X G (c.fact 11 (f := .glo "require_state") rfl)) (G_require_plant.mono (by decide)) (G_is_valid_state.mono (by decide))
  have G_format_plant : FnGood P w K mg base 6 "format_plant" f_format_plant := w_format_plant (k := 5) hB hX F_format_plant (He.glo_ok X G (c.fact 14 (f := .glo "format_plant") rfl)) (G_require_plant.mono (by decide)) (G_plant_text.mono (by decide))
  have G_parse_state : FnGood P w K mg base 6 "parse_state" f_parse_state := w_parse_state (k := 5) hB hX F_parse_state (He.glo_ok X G (c.fact 19 (f := .glo "parse_state") rfl)) (G_require_plant.mono (by decide)) (G_is_valid_state.mono (by decide)) (G_state_text.mono (by decide))
  have G__law_parse_plant_or : FnGood P w K mg base 6 "_law_parse_plant_or" f__law_parse_plant_or := w__law_parse_plant_or (k := 5) hB hX F__law_parse_plant_or (He.glo_ok X G (c.fact 31 (f := .glo "_law_parse_plant_or") rfl)) (G_parse_plant.mono (by decide))
  have G_format_state : FnGood P w K mg base 7 "format_state" f_format_state := w_format_state (k := 6) hB hX F_format_state (He.glo_ok X G (c.fact 18 (f := .glo "format_state") rfl)) (G_require_state.mono (by decide)) (G_state_text.mono (by decide))
  have G__law_parse_state_or : FnGood P w K mg base 7 "_law_parse_state_or" f__law_parse_state_or := w__law_parse_state_or (k := 6) hB hX F__law_parse_state_or (He.glo_ok X G (c.fact 32 (f := .glo "_law_parse_state_or") rfl)) (G_parse_state.mono (by decide))
  have G__law_refused : FnGood P w K mg base 8 "_law_refused" f__law_refused_k29 := w__law_refused_k29 (k := 7) hB hX F__law_refused (He.glo_ok X G (c.fact 30 (f := .glo "_law_refused") rfl)) (G__law_parse_plant_or.mono (by decide)) (G__law_parse_state_or.mono (by decide))
  have GA__law_same : ∀ n, FnGood P w K mg base (2 + n) "_law_same" (f__law_same n) := by
    intro n
    induction n with
    | zero => exact good_fail F__law_same (fnSc_of (N := ["got", "due", "one", "other"]) (ps := ["got", "due"]) (by kernel_rfl)).1 (He.glo_ok X G (c.fact 20 (f := .glo "_law_same") rfl)) (FunD.bindsN F__law_same fun _ _ _ _ _ _ us hl => match us, hl with | [_, _], _ => rfl)
    | succ n ih => exact w__law_same n (k := 2 + n) hB hX F__law_same (He.glo_ok X G (c.fact 20 (f := .glo "_law_same") rfl)) ih
  have G__law_same : FnGood P w K mg base 10 "_law_same" (f__law_same deep) := GA__law_same 8
  exact w_law (k := 10) hB hX F_law (G__law_some.mono (by decide)) (G_format_plant.mono (by decide)) (G_format_state.mono (by decide)) (G__law_same.mono (by decide)) (G_parse_plant.mono (by decide)) (G_parse_state.mono (by decide)) (G__law_spoiled.mono (by decide)) (G__law_parse_plant_or.mono (by decide)) (G__law_parse_state_or.mono (by decide)) (G__law_refused.mono (by decide)) law_run
end TK.KK
open PySem PySem.W PySem.Calls PyProof.Rows
theorem PySem.Challenge.cw_trappedkeys_k29_whole_there_and_back_holds : PySem.Challenge.rw_trappedkeys_k29_whole_there_and_back.Holds := by
  w_on; o_law
  refine HandSHeadRun.head_any (r := OpenLaw.row PySem.Challenge.rw_trappedkeys_k29_whole_there_and_back) (q := view (OpenLaw.row PySem.Challenge.rw_trappedkeys_k29_whole_there_and_back).prog [41]) (H := TK.KK.hk) (ob := TK.KK.ob) (M := 4000) (loose := TK.KK.loose) (d := HandSHeadRun.topDef (OpenLaw.row PySem.Challenge.rw_trappedkeys_k29_whole_there_and_back).prog 41) (kwd := []) TK.KK.ob_eq
    (by kernel_rfl) (fun s => by kernel_rfl) TK.KK.hrun (by kernel_rfl) (by kernel_rfl) (by kernel_rfl) (by rfl) (by first | assumption | decide +kernel) (by decide +kernel) ⟨rfl, rfl, rfl, rfl, rfl, by decide +kernel⟩ ?hw ?hc
  case hw => w_witness2
  case hc =>
    refine L2.walk_ofE (l := PySem.Challenge.rw_trappedkeys_k29_whole_there_and_back) (n := 63) (k := 11) (x := "script") (CX := L2.CX0) rfl (by decide) (by kernel_rfl) ⟨rfl, by decide, by decide⟩ ?F (fun _ _ _ _ z => z)
    intro w mg fa h Y G hmg0
    obtain ⟨K, KX, c⟩ := Y
    have hmg : mg ("law" : PySem.Str) = some (.ref fa) := by
      have e : (HandSHeadRun.topDef (OpenLaw.row PySem.Challenge.rw_trappedkeys_k29_whole_there_and_back).prog 41).name = ("law" : PySem.Str) := by kernel_rfl
      rw [← e]
      exact hmg0
    obtain ⟨fd, hb, hF⟩ := TK.KK.facts (P := (PySem.Challenge.rw_trappedkeys_k29_whole_there_and_back).prog) (w := w) KX G hmg c
    exact ⟨K, fd, TK.spLaw K 63, KX, hb, fun H a ns hl _ hS => ⟨a, ns, rfl, hS, hl, fun _ => rfl⟩, hF⟩
