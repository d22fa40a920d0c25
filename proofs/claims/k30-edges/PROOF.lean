import PyProof.Rows.All
import Wide.All
import OpenK.AllK
import Wide.FinOn
import KE.SortKeyHeap
import HandS.ForMost
import HandS.Deep
import HandS.ExcInit
import HandS.WordsExc
import HandS.IsInst
import HandS.TupAny
import HandS.Rev
import HandS.Flow
import HandS.TupLe
import HandS.Style
import HandS.SetKeys
import HandS.Strs
import HandS.SortKw
import HandS.CallSlots
import KE.DataEq
import KE.KxMul
import HandS.TupMul
import PyProof.ListMulRoad
import HandS.TryMany
import HandS.ExcIs
import HandS.ExcField
import HandS.Defaults
import HandS.SetTxt0
import HandS.SetFor
import HandS.More
import HandS.EndBits
import PySem.Challenge.RW_copyhands_k30_at_the_edges
set_option Elab.async false
set_option linter.all false
set_option maxRecDepth 100000
set_option maxHeartbeats 4000000
/-! CH Z1: sorted of tuples, empty ones too. -/
namespace PySem.SeqAt
open AutoSeq1 (wpAny_loadPart')
open MeetsSeq MeetsSeq2 MeetsSeq3 SeqRoads2
section
variable {A : Around} {s : Shared}
theorem call_tuple_lt {prog : Program} {w : World} {E : Value → Shared → Prop} {Q : Value → Shared → Prop} {l b : Addr} {items items2 : Array Value} {e r : Nat → Bool} (hl : s.heap.IsTuple l items) (hb : s.heap.IsTuple b items2)
    (he : ∀ j (h1 : j < items.size) (h2 : j < items2.size), EqAt A.in1 s items[j] items2[j] (e j)) (hr : ∀ j (h1 : j < items.size) (h2 : j < items2.size), e j = false → RcLt A.in1 s items[j] items2[j] (r j))
    (h : Q (.bool (firstLt e r (decide (items.size < items2.size)) (List.range (min items.size items2.size)))) s) : wpAny (model prog w) A (call (.builtin "tuple.__lt__") [.ref l, .ref b]) Q E s := by
  obtain ⟨⟨cls, dd, data, sl⟩, ho, hc, n, hd⟩ := id hl
  obtain ⟨⟨cls2, dd2, data2, sl2⟩, ho2, hc2, n2, hd2⟩ := id hb
  simp only at hc hd hc2 hd2
  subst hc hd hc2 hd2
  exact call_meets F.slot_tuple_lt ⟨_, ho, rfl⟩ F.entry_tuple_lt (F.args_tuple_lt_2 _ _) (tuple_ltAt l b items items2 n n2 dd dd2 sl sl2 e r) ⟨ho, ho2, he, hr, h⟩
end
end PySem.SeqAt
namespace PySem.W
open PySem PySem.Calls PyProof.Rows PySem.SeqAt
section
variable {prog : Program} {w : World} {A : Around} {E : Value → Shared → Prop} {s : Shared}
theorem oneLt_tup {xs ys : List PyData} {a b : Value} {as bs : List Addr} {Q : Bool → Shared → Prop} (ra : Reads s.heap a (.tuple xs) as) (rb : Reads s.heap b (.tuple ys) bs) (h : alike (.tuple xs) (.tuple ys) = true)
    (hu : A.units + min (PyData.tuple xs).depth (PyData.tuple ys).depth < cLine) (hq : Q (dataLt (.tuple xs) (.tuple ys)) s) : wpAny (model prog w) A (oneLt' true a b) Q E s := by
  have hal : alikeAll xs ys = true := by simpa [alike] using h
  cases ra with
  | @tuple l o vs n _ as₁ h1 h2 h3 h4 =>
    cases rb with
    | @tuple l' o' vs' n' _ bs₁ k1 k2 k3 k4 =>
      have n1 : vs.size = xs.length := by simpa using ReadsAll.length _ _ _ h4
      have n2 : vs'.size = ys.length := by simpa using ReadsAll.length _ _ _ k4
      rw [dataLt_tuple, ← firstLt_toks xs ys hal, ← n1, ← n2] at hq
      rw [oneLt'_eq]
      simp only [if_true]
      refine wpAny_bind (wpAny_cRoomFor (room_here hu) ?_)
      refine wpAny_bind (wpAny_callSpecialIfBound?_slot (T := "tuple") ⟨_, h1, h2⟩ F.slot_tuple_lt (call_tuple_lt (e := pairEq xs ys) (r := fun j => dataLt (xs.getD j .none) (ys.getD j .none)) ⟨_, h1, h2, _, h3⟩ ⟨_, k1, k2, _, k3⟩ (fun j j1 j2 => ?_) (fun j j1 j2 hj => ?_) ?_))
      · have := eqAt_alikeAll xs ys A.in1 s vs.toList vs'.toList _ _ h4 k4 hal (room_in hu) j (by simpa using j1) (by simpa using j2)
        simpa using this
      · have := rcLt_alikeAll xs ys A.in1 s vs.toList vs'.toList _ _ h4 k4 hal (room_in hu) j (by simpa using j1) (by simpa using j2) hj
        simpa using this
      · exact wpAny_truthy_bool hq
/-- the first item of each, if there is one -/
def TupsF (h : Heap) : List Value → List (Option Value) → Prop
  | [], [] => True
  | v :: vs, f :: fs => (∃ a o xs n, v = .ref a ∧ h.get? a = some o ∧ o.cls = .type "tuple" ∧ o.data = .seq xs n ∧ xs[0]? = f) ∧ TupsF h vs fs
  | _, _ => False
theorem tf_firsts : ∀ (vs : List Value) (fs : List (Option Value)) {Q : List (Option Value) → Shared → Prop}, TupsF s.heap vs fs → Q fs s → wpAny (model prog w) A (vs.mapM firstOfTuple') Q E s
  | [], [], _, _, h => by rw [List.mapM_nil]; exact wpAny_pure h
  | [], _ :: _, _, t, _ => t.elim
  | _ :: _, [], _, t, _ => t.elim
  | v :: vs, f :: fs, Q, t, h => by
    obtain ⟨⟨a, o, xs, n, rfl, ho, hc, hd, hf⟩, t⟩ := t
    rw [List.mapM_cons]
    refine wpAny_bind ?_
    rw [kas_first_eq]
    refine wpAny_bind (Looks.here (show Looks (model prog w) s.heap (typeOf (.ref a)) o.cls from (Looks.ld ho).andThen .now) ?_)
    rw [hc, if_neg (by first | decide | simp)]
    refine wpAny_bind (listItems_at ho hd (wpAny_pure ?_))
    rw [hf]
    exact wpAny_bind (tf_firsts vs fs (Q := fun bs s' => wpAny (model prog w) A (pure (f :: bs)) Q E s') t (wpAny_pure h))
theorem tf_types : ∀ (vs : List Value) (fs : List (Option Value)), TupsF s.heap vs fs → ∀ v ∈ vs, Looks (model prog w) s.heap (typeOf v) (.type "tuple")
  | [], _, _, _, h => by cases h
  | _ :: _, [], t, _, _ => t.elim
  | v :: vs, f :: fs, t, u, hu => by
    obtain ⟨⟨a, o, xs, n, rfl, ho, hc, hd, hf⟩, t⟩ := t
    rcases List.mem_cons.mp hu with rfl | hu
    · have z : Looks (model prog w) s.heap (typeOf (.ref a)) o.cls := (Looks.ld ho).andThen .now
      rw [hc] at z
      exact z
    · exact tf_types vs fs t u hu
theorem tf_of : ∀ (vs : List Value) (ds : List PyData), EachIs (fun v d => ∃ as, Reads s.heap v d as) vs ds → (∀ d, d ∈ ds → ∃ xs, d = .tuple xs) → ∃ fs, TupsF s.heap vs fs ∧ fs.length = ds.length ∧ ((∃ d, d ∈ ds ∧ d = .tuple []) → ¬ (fs.all fun x => x.isSome) = true)
  | _, _, .nil, _ => ⟨[], trivial, rfl, fun ⟨d, h, _⟩ => by cases h⟩
  | _, _, .cons (a := v) (b := d) (as := vs) (bs := ds) ⟨as, r⟩ t, ht => by
    obtain ⟨fs, h1, h2, h3⟩ := tf_of vs ds t fun d hd => ht d (List.mem_cons_of_mem _ hd)
    obtain ⟨xs, rfl⟩ := ht d (List.mem_cons_self ..)
    cases r with
    | @tuple a o ys n _ _ ho hc hd hr =>
      refine ⟨ys[0]? :: fs, ⟨⟨a, o, ys, n, rfl, ho, hc, hd, rfl⟩, h1⟩, by rw [List.length_cons, List.length_cons, h2], fun ⟨d, hm, hd⟩ => ?_⟩
      rcases List.mem_cons.mp hm with rfl | hm
      · cases hd
        have e : ys = #[] := by
          cases q : ys.toList with
          | nil => exact Array.toList_eq_nil_iff.mp q
          | cons _ _ => rw [q] at hr; cases hr
        subst e
        simp
      · have := h3 ⟨d, hm, hd⟩
        rw [List.all_cons]
        intro z
        rw [Bool.and_eq_true] at z
        exact this z.2
theorem tf_kind {vs : List Value} {fs : List (Option Value)} {Q : SortKind → Shared → Prop} (t : TupsF s.heap vs fs) (hl : fs.length = vs.length) (hne : ¬ (fs.all fun x => x.isSome) = true) (h2 : 2 ≤ vs.length) (h : Q (if (fs[0]?.bind id).isSome = true then general' else oneType') s) :
    wpAny (model prog w) A (keyKind' vs.toArray) Q E s := by
  rw [keyKind'_eq, List.mapM_toArray, map_eq_pure_bind]
  refine wpAny_bind (wpAny_bind (tf_firsts vs fs t (wpAny_pure ?_)))
  rw [if_neg (by simpa using hne)]
  by_cases hf : (fs[0]?.bind id).isSome = true
  · rw [if_pos hf] at h
    have e : (fs.toArray[0]?.bind id).isSome = true := by simpa using hf
    rw [if_pos e]
    exact wpAny_pure h
  · rw [if_neg hf] at h
    have e : ¬ (fs.toArray[0]?.bind id).isSome = true := by simpa using hf
    rw [if_neg e]
    rw [oneTypeOnly'_eq, List.mapM_toArray, map_eq_pure_bind]
    refine wpAny_bind (wpAny_bind (wpAny_bind (kas_mapM (r := Value.type "tuple") _ (fun v hv Q' hq => (tf_types vs fs t v hv).here hq) (wpAny_pure ?_))))
    obtain ⟨v₁, v₂, rest, rfl⟩ : ∃ v₁ v₂ rest, vs = v₁ :: v₂ :: rest := by
      match vs, h2 with
      | [], h2 => simp at h2
      | [_], h2 => simp at h2
      | v₁ :: v₂ :: rest, _ => exact ⟨v₁, v₂, rest, rfl⟩
    have hall : ((List.map (fun _ => Value.type "tuple") (v₁ :: v₂ :: rest)).toArray.all fun x => x == Value.type "tuple") = true := by
      simp only [List.all_toArray, List.all_map, List.all_eq_true]
      intro _ _
      exact beq_self_eq_true _
    have h0 : (List.map (fun _ => Value.type "tuple") (v₁ :: v₂ :: rest)).toArray[0]? = some (Value.type "tuple") := by simp
    rw [h0]
    simp only [hall, if_true]
    exact wpAny_pure (wpAny_pure h)
theorem SortsAt.tups {vs : List Value} {ds : List PyData} (e : EachIs (fun v d => ∃ as, Reads s.heap v d as) vs ds) (hal : AllAlike ds) (ht : ∀ d, d ∈ ds → ∃ xs, d = .tuple xs) (hu : ∀ d, d ∈ ds → A.units + d.depth < cLine) : SortsAt prog w A s (dataKind s.heap ds) vs := by
  by_cases hx : ∃ d, d ∈ ds ∧ d = .tuple []
  · have room : ∀ {d d' : PyData}, d ∈ ds → A.units + min d.depth d'.depth < cLine := fun {d d'} hd => Nat.lt_of_le_of_lt (Nat.add_le_add_left (Nat.min_le_left _ _) _) (hu d hd)
    refine ⟨fun v hv => ?_, ?_⟩
    · obtain ⟨d, hd, as, r⟩ := e.left v hv
      exact ⟨_, dataKind_some hal hd r⟩
    · obtain ⟨fs, t1, t2, t3⟩ := tf_of vs ds e ht
      refine ⟨if (fs[0]?.bind id).isSome = true then general' else oneType', ?_, fun h2 E Q hq => tf_kind t1 (by rw [t2, e.length]) (t3 hx) h2 hq⟩
      intro E x y a b Q ha hb hq
      obtain ⟨d, as, hd, ra, rfl⟩ := dataKind_inv ha
      obtain ⟨d', as', hd', rb, rfl⟩ := dataKind_inv hb
      obtain ⟨xs, rfl⟩ := ht d hd
      obtain ⟨ys, rfl⟩ := ht d' hd'
      have hal' := hal _ hd _ hd'
      split
      · show wpAny _ _ (oneLt' false x y) _ _ _
        exact oneLt_alike (fun z => by cases z) ra rb hal' (fun z => nomatch z) (room hd) hq
      · rw [keyLt'_oneType]
        exact oneLt_tup ra rb hal' (room hd) hq
  · refine SortsAt.data e hal (.inl fun d hd => ?_) hu
    obtain ⟨xs, rfl⟩ := ht d hd
    cases xs with
    | nil => exact absurd ⟨_, hd, rfl⟩ hx
    | cons x r => exact ⟨x, r, rfl⟩
/-- every two alike; none is None, or all tuples -/
def SortOk (ds : List PyData) : Prop := AllAlike ds ∧ ((∀ d, d ∈ ds → ∃ xs, d = .tuple xs) ∨ ∀ d, d ∈ ds → d ≠ .none ∧ ∀ xs, d ≠ .tuple xs)
theorem SortsAt.ok {vs : List Value} {ds : List PyData} (e : EachIs (fun v d => ∃ as, Reads s.heap v d as) vs ds) (hk : SortOk ds) (hu : ∀ d, d ∈ ds → A.units + d.depth < cLine) : SortsAt prog w A s (dataKind s.heap ds) vs := by
  rcases hk.2 with h | h
  · exact SortsAt.tups e hk.1 h hu
  · exact SortsAt.data e hk.1 (.inr h) hu
variable {R : Value → PyData → Prop}
theorem sorted_rev_ok {l : Addr} {b : Bool} {vs : List Value} {ds : List PyData} {Q : Value → Shared → Prop} (hl : s.heap.IsList l vs.toArray) (e : EachIs R vs ds) (er : EachIs (fun v d => ∃ as, Reads s.heap v d as) vs ds) (hk : SortOk ds) (hL : ds.length ≤ sizeLine)
    (hu : ∀ d, d ∈ ds → A.units + 2 + d.depth < cLine) (h : ∀ out, out.length = ds.length → EachIs R out (ds.mergeSort (dataLe b id)) → Q (.ref (s.heap.objs.size + 1)) { s with heap := sortedAll s.heap vs (List.toArray out) }) :
    wpAny (model prog w) A (call (.builtin "sorted") [.ref l] [(Str.ofString "reverse", .bool b)]) Q E s := by
  have er' : EachIs (fun v d => ∃ as, Reads (sortingHeap (copyHeap s.heap vs) (s.heap.objs.size + 1) vs) v d as) vs ds := er.mono fun _ _ ⟨as, r⟩ => ⟨as, PyProof.Rows.Reads.keeps (fun _ _ => sorting_copy_old) r⟩
  have ei : ds.map id = ds := List.map_id ds
  refine sorted_rev_vals hl (SortsAt.ok (s := { s with heap := sortingHeap (copyHeap s.heap vs) (s.heap.objs.size + 1) vs }) er' hk hu) (by rw [e.length]; exact hL)
    (h _ (by rw [sortVals_length b rfl]; exact e.length) ?_)
  have z := sortVals_data (h' := sortingHeap (copyHeap s.heap vs) (s.heap.objs.size + 1) vs) (enc := id) b e er' (by rw [ei]; exact hk.1)
  rw [ei] at z
  exact z
theorem sorted_ok {l : Addr} {vs : List Value} {ds : List PyData} {Q : Value → Shared → Prop} (hl : s.heap.IsList l vs.toArray) (e : EachIs R vs ds) (er : EachIs (fun v d => ∃ as, Reads s.heap v d as) vs ds) (hk : SortOk ds) (hL : ds.length ≤ sizeLine)
    (hu : ∀ d, d ∈ ds → A.units + 2 + d.depth < cLine) (h : ∀ out, out.length = ds.length → EachIs R out (ds.mergeSort (dataLe false id)) → Q (.ref (s.heap.objs.size + 1)) { s with heap := sortedAll s.heap vs (List.toArray out) }) :
    wpAny (model prog w) A (call (.builtin "sorted") [.ref l]) Q E s := by
  have er' : EachIs (fun v d => ∃ as, Reads (sortingHeap (copyHeap s.heap vs) (s.heap.objs.size + 1) vs) v d as) vs ds := er.mono fun _ _ ⟨as, r⟩ => ⟨as, PyProof.Rows.Reads.keeps (fun _ _ => sorting_copy_old) r⟩
  have ei : ds.map id = ds := List.map_id ds
  refine sorted_vals hl (SortsAt.ok (s := { s with heap := sortingHeap (copyHeap s.heap vs) (s.heap.objs.size + 1) vs }) er' hk hu) (by rw [e.length]; exact hL)
    (h _ (by rw [sortVals_length false rfl]; exact e.length) ?_)
  have z := sortVals_data (h' := sortingHeap (copyHeap s.heap vs) (s.heap.objs.size + 1) vs) (enc := id) false e er' (by rw [ei]; exact hk.1)
  rw [ei] at z
  exact z
end
end PySem.W

/-! CH 1: data over the abstract heap. -/
namespace CH
open PySem PySem.Spec PyProof.Rows L2

abbrev D := PyData

/-- what a piece of the program comes to: a value, an exception (its class by number, what it bears), or nothing told -/
inductive R (α : Type) where
  | ok (a : α)
  | exc (c : Nat) (f : Option D)
  | stuck

def R.bind {α β : Type} (r : R α) (k : α → R β) : R β := match r with
  | .ok a => k a
  | .exc c f => .exc c f
  | .stuck => .stuck

/-- a slot: unassigned, a datum, a list of one's own (it may be changed), a caught exception -/
inductive Sl where
  | no
  | dat (d : D)
  | own (ds : List D)
  | exc (c : Nat) (f : Option D)

/-- the heap grew: B, the part of H that never changes -/
structure Ext (B H B' H' : Hp) : Prop where
  bb : Same B B'
  hh : Same H H'
  bh : Same B' H'
  nb : ∀ a, H a ≠ none → B a = none → B' a = none
theorem Ext.refl {B H : Hp} (h : Same B H) : Ext B H B H := ⟨Same.refl _, Same.refl _, h, fun _ _ h => h⟩
theorem Ext.trans {B H B1 H1 B2 H2 : Hp} (a : Ext B H B1 H1) (b : Ext B1 H1 B2 H2) : Ext B H B2 H2 :=
  ⟨a.bb.trans b.bb, a.hh.trans b.hh, b.bh, fun c h n => b.nb c (by
    cases e : H c with
    | none => exact absurd e h
    | some o => rw [a.hh c o e]; exact fun z => nomatch z) (a.nb c h n)⟩
theorem upd_free {H : Hp} {p : Addr} {o : HO} (np : H p = none) : Same H (upd H p o) := fun b x e => by
  rw [upd_ne (ne_of_none e np)]
  exact e
theorem free_of {B H : Hp} (s : Same B H) {p : Addr} (np : H p = none) : B p = none := s.free np
/-- a new object is laid -/
theorem Ext.new {B H : Hp} (s : Same B H) {p : Addr} {o : HO} (np : H p = none) : Ext B H (upd B p o) (upd H p o) := by
  have nb := s.free np
  refine ⟨upd_free nb, upd_free np, fun b x e => ?_, fun a h n => ?_⟩
  · by_cases hb : b = p
    · rw [hb, upd_same] at e ⊢
      exact e
    · rw [upd_ne hb] at e ⊢
      exact s b x e
  · have hb : a ≠ p := fun z => h (z ▸ np)
    rw [upd_ne hb]
    exact n

end CH
namespace L2
open PySem PySem.Spec PyProof.Rows CH
theorem Same.seqT {K : PySem.W.Frag} {H H' : Hp} {a : Addr} {xs : List V} (e : Same H H') (h : SqT K H a xs) : SqT K H' a xs := by
  rcases h with (h | ⟨o, h⟩) | h
  · exact .inl (.inl (e _ _ h))
  · exact .inl (.inr ⟨o, e _ _ h⟩)
  · exact .inr h
mutual
theorem Dp.same {K : PySem.W.Frag} {H H' : Hp} {v : V} {d : D} (x : Dp K H v d) (e : Same H H') : Dp K H' v d := match x with
  | .non => .non
  | .bl b => .bl b
  | .int i => .int i
  | .str x => .str x
  | .lst h r => .lst (e.seq h) (DpAll.same r e)
  | .tup h r => .tup (e.seqT h) (DpAll.same r e)
theorem DpAll.same {K : PySem.W.Frag} {H H' : Hp} {vs : List V} {ds : List D} (x : DpAll K H vs ds) (e : Same H H') : DpAll K H' vs ds := match x with
  | .nil => .nil
  | .cons h r => .cons (Dp.same h e) (DpAll.same r e)
end
section
variable {K : PySem.W.Frag} {H : Hp}
theorem DpAll.length : ∀ {vs : List V} {ds : List D}, DpAll K H vs ds → vs.length = ds.length
  | _, _, .nil => rfl
  | _, _, .cons _ r => congrArg Nat.succ (DpAll.length r)
theorem DpAll.get : ∀ {vs : List V} {ds : List D} {i : Nat} {d : D}, DpAll K H vs ds → ds[i]? = some d → ∃ v, vs[i]? = some v ∧ Dp K H v d
  | _, _, _, _, .nil, e => by simp at e
  | _, _, 0, _, .cons h _, e => by simp at e; subst e; exact ⟨_, rfl, h⟩
  | _, _, i + 1, _, .cons _ r, e => by
    obtain ⟨v, h1, h2⟩ := DpAll.get (i := i) r (by simpa using e)
    exact ⟨v, by simpa using h1, h2⟩
theorem DpAll.get' : ∀ {vs : List V} {ds : List D} {i : Nat} {v : V}, DpAll K H vs ds → vs[i]? = some v → ∃ d, ds[i]? = some d ∧ Dp K H v d
  | _, _, _, _, .nil, e => by simp at e
  | _, _, 0, _, .cons h _, e => by simp at e; subst e; exact ⟨_, rfl, h⟩
  | _, _, i + 1, _, .cons _ r, e => by
    obtain ⟨v, h1, h2⟩ := DpAll.get' (i := i) r (by simpa using e)
    exact ⟨v, by simpa using h1, h2⟩
theorem DpAll.append : ∀ {vs ws : List V} {ds es : List D}, DpAll K H vs ds → DpAll K H ws es → DpAll K H (vs ++ ws) (ds ++ es)
  | _, _, _, _, .nil, s => s
  | _, _, _, _, .cons h r, s => .cons h (DpAll.append r s)
theorem DpAll.take : ∀ {vs : List V} {ds : List D} (n : Nat), DpAll K H vs ds → DpAll K H (vs.take n) (ds.take n)
  | _, _, 0, _ => .nil
  | _, _, _ + 1, .nil => .nil
  | _, _, n + 1, .cons h r => .cons h (DpAll.take n r)
theorem DpAll.drop : ∀ {vs : List V} {ds : List D} (n : Nat), DpAll K H vs ds → DpAll K H (vs.drop n) (ds.drop n)
  | _, _, 0, r => r
  | _, _, _ + 1, .nil => .nil
  | _, _, n + 1, .cons _ r => DpAll.drop n r
theorem DpAll.reverse {vs : List V} : ∀ {ds : List D}, DpAll K H vs ds → DpAll K H vs.reverse ds.reverse := by
  induction vs with
  | nil => intro ds h; cases h; exact .nil
  | cons v vs ih =>
    intro ds h
    cases h with
    | cons h r => rw [List.reverse_cons, List.reverse_cons]; exact DpAll.append (ih r) (.cons h .nil)
theorem DpAll.rep {vs : List V} {ds : List D} (h : DpAll K H vs ds) : ∀ k : Nat, DpAll K H (List.replicate k vs).flatten (List.replicate k ds).flatten
  | 0 => .nil
  | k + 1 => by
    rw [List.replicate_succ, List.replicate_succ, List.flatten_cons, List.flatten_cons]
    exact DpAll.append h (DpAll.rep h k)
theorem DpAll.eraseIdx : ∀ {vs : List V} {ds : List D} (i : Nat), DpAll K H vs ds → DpAll K H (vs.eraseIdx i) (ds.eraseIdx i)
  | _, _, _, .nil => .nil
  | _, _, 0, .cons _ t => t
  | _, _, i + 1, .cons r t => .cons r (DpAll.eraseIdx i t)
mutual
theorem Dp.plain : ∀ {v : V} {d : D}, Dp K H v d → d.plain = true
  | _, _, .non => rfl
  | _, _, .bl b => rfl
  | _, _, .int i => rfl
  | _, _, .str x => rfl
  | _, _, .lst h r => by rw [PyData.plain]; exact DpAll.plain r
  | _, _, .tup h r => by rw [PyData.plain]; exact DpAll.plain r
theorem DpAll.plain : ∀ {vs : List V} {ds : List D}, DpAll K H vs ds → PyData.plainAll ds = true
  | _, _, .nil => rfl
  | _, _, .cons h r => by rw [PyData.plainAll, Dp.plain h, DpAll.plain r]; rfl
end
theorem Dp.tup_new {p : Addr} {vs : List V} {ds : List D} (h : DpAll K (upd H p (.tup vs)) vs ds) : Dp K (upd H p (.tup vs)) (.ref p) (.tuple ds) := .tup (.inl (.inl upd_same)) h
theorem Dp.lst_new {p : Addr} {vs : List V} {ds : List D} (h : DpAll K (upd H p (.lst vs)) vs ds) : Dp K (upd H p (.lst vs)) (.ref p) (.list ds) := .lst (.inl (.inl upd_same)) h
end

end L2
namespace CH
open PySem PySem.Spec PyProof.Rows L2
/-- the slots hold the data ρ; what a caught exception is: sx tells -/
structure Rel (K : PySem.W.Frag) (sx : Option (Addr × Nat × Option Addr × Str)) (B H : Hp) (σ : L2.St) (ρ : List Sl) : Prop where
  len : σ.length = ρ.length
  sub : Same B H
  dat : ∀ (i : Nat) (d : D), ρ[i]? = some (Sl.dat d) → ∃ v, σ[i]? = some (some v) ∧ Dp K B v d
  own : ∀ (i : Nat) (ds : List D), ρ[i]? = some (Sl.own ds) → ∃ a xs, σ[i]? = some (some (V.ref a)) ∧ H a = some (HO.lst xs) ∧ B a = none ∧ DpAll K B xs ds
  sep : ∀ (i j : Nat) (ds es : List D) (a : Addr), ρ[i]? = some (Sl.own ds) → ρ[j]? = some (Sl.own es) → σ[i]? = some (some (V.ref a)) → σ[j]? = some (some (V.ref a)) → i = j
  exc : ∀ (i c : Nat) (f : Option D), ρ[i]? = some (Sl.exc c f) → ∃ a dx nm, sx = some (a, c, dx, nm) ∧ σ[i]? = some (some (V.ref a)) ∧ (f = none → dx = none) ∧ ∀ d, f = some d → ∃ x v, dx = some x ∧ B x = some (HO.xd [(nm, v)]) ∧ Dp K B v d
theorem Rel.ext {K : PySem.W.Frag} {sx} {B H B' H' : Hp} {σ : L2.St} {ρ : List Sl} (r : Rel K sx B H σ ρ) (e : Ext B H B' H') : Rel K sx B' H' σ ρ := by
  refine ⟨r.len, e.bh, fun i d h => ?_, fun i ds h => ?_, r.sep, fun i c f h => ?_⟩
  · obtain ⟨v, h1, h2⟩ := r.dat i d h
    exact ⟨v, h1, h2.same e.bb⟩
  · obtain ⟨a, xs, h1, h2, h3, h4⟩ := r.own i ds h
    exact ⟨a, xs, h1, e.hh _ _ h2, e.nb a (by rw [h2]; exact fun z => nomatch z) h3, h4.same e.bb⟩
  · obtain ⟨a, dx, nm, h1, h2, h3⟩ := r.exc i c f h
    refine ⟨a, dx, nm, h1, h2, h3.1, fun d hd => ?_⟩
    obtain ⟨x, v, h4, h5, h6⟩ := h3.2 d hd
    exact ⟨x, v, h4, e.bb _ _ h5, h6.same e.bb⟩

/-- an exception's class (by number: its address, its field's name) and what it bears -/
structure ExcAt (K : PySem.W.Frag) (ct : Nat → Option (Addr × Str)) (B : Hp) (c : Nat) (f : Option D) (cls : Value) (dx : Option Addr) : Prop where
  at_ : ∃ C nm, ct c = some (C, nm) ∧ cls = .ref C ∧ (f = none → dx = none) ∧ ∀ d, f = some d → ∃ x v, dx = some x ∧ B x = some (.xd [(nm, v)]) ∧ Dp K B v d

/-- what stands around: the table of exception classes, the exception in hand, the wish for exceptions -/
structure Wd where
  K : PySem.W.Frag
  ct : Nat → Option (Addr × Str)
  sx : Option (Addr × Nat × Option Addr × Str)
  W : WX

/-- what must hold that a piece which comes to r ends so -/
def Ev (w : Wd) (B H : Hp) (σ : L2.St) (Q : VK) : R D → Prop
  | .ok d => ∀ v B' H', Ext B H B' H' → Dp w.K B' v d → Q v H'
  | .exc c f => ∀ cls dx B' H', Ext B H B' H' → ExcAt w.K w.ct B' c f cls dx → w.W cls dx σ H'
  | .stuck => False
def EvA (w : Wd) (B H : Hp) (σ : L2.St) (Q : List V → Hp → Prop) : R (List D) → Prop
  | .ok ds => ∀ vs B' H', Ext B H B' H' → DpAll w.K B' vs ds → Q vs H'
  | .exc c f => ∀ cls dx B' H', Ext B H B' H' → ExcAt w.K w.ct B' c f cls dx → w.W cls dx σ H'
  | .stuck => False
def EvT (w : Wd) (B H : Hp) (σ : L2.St) (Q : Bool → Hp → Prop) : R Bool → Prop
  | .ok b => ∀ B' H', Ext B H B' H' → Q b H'
  | .exc c f => ∀ cls dx B' H', Ext B H B' H' → ExcAt w.K w.ct B' c f cls dx → w.W cls dx σ H'
  | .stuck => False

abbrev M (α : Type) := List Sl → R α
def tE (w : Wd) (m : M D) : TE := fun σ H Q => ∃ B ρ, Rel w.K w.sx B H σ ρ ∧ Ev w B H σ Q (m ρ)
def tA (w : Wd) (m : M (List D)) : TA := fun σ H Q => ∃ B ρ, Rel w.K w.sx B H σ ρ ∧ EvA w B H σ Q (m ρ)
def tT (w : Wd) (m : M Bool) : TT := fun σ H Q => ∃ B ρ, Rel w.K w.sx B H σ ρ ∧ EvT w B H σ Q (m ρ)

theorem Ev.mono {w : Wd} {B H B1 H1 : Hp} {σ : L2.St} {Q : VK} {r : R D} (e : Ext B H B1 H1) (h : Ev w B H σ Q r) : Ev w B1 H1 σ Q r := by
  cases r with
  | ok d => exact fun v B' H' e' => h v B' H' (e.trans e')
  | exc c f => exact fun cls dx B' H' e' => h cls dx B' H' (e.trans e')
  | stuck => exact h
theorem EvA.mono {w : Wd} {B H B1 H1 : Hp} {σ : L2.St} {Q : List V → Hp → Prop} {r : R (List D)} (e : Ext B H B1 H1) (h : EvA w B H σ Q r) : EvA w B1 H1 σ Q r := by
  cases r with
  | ok d => exact fun v B' H' e' => h v B' H' (e.trans e')
  | exc c f => exact fun cls dx B' H' e' => h cls dx B' H' (e.trans e')
  | stuck => exact h
theorem EvT.mono {w : Wd} {B H B1 H1 : Hp} {σ : L2.St} {Q : Bool → Hp → Prop} {r : R Bool} (e : Ext B H B1 H1) (h : EvT w B H σ Q r) : EvT w B1 H1 σ Q r := by
  cases r with
  | ok d => exact fun B' H' e' => h B' H' (e.trans e')
  | exc c f => exact fun cls dx B' H' e' => h cls dx B' H' (e.trans e')
  | stuck => exact h

theorem PE.imp {X : Cx} {e : Expr} {t t' : TE} (h : PE X e t) (i : ∀ σ H Q, t' σ H Q → t σ H Q) : PE X e t' := ⟨fun pins s σ H Q I q => h.run pins s σ H Q I (i _ _ _ q)⟩
theorem PA.imp {X : Cx} {e : List Expr} {t t' : TA} (h : PA X e t) (i : ∀ σ H Q, t' σ H Q → t σ H Q) : PA X e t' := ⟨fun pos pins s σ H Q I q => h.run pos pins s σ H Q I (i _ _ _ q)⟩
theorem PT.imp {X : Cx} {e : Expr} {t t' : TT} (h : PT X e t) (i : ∀ σ H Q, t' σ H Q → t σ H Q) : PT X e t' := ⟨fun pins s σ H Q I q => h.run pins s σ H Q I (i _ _ _ q)⟩
theorem PW.imp {X : Cx} {e : Expr} {t t' : TT} (h : PW X e t) (i : ∀ σ H Q, t' σ H Q → t σ H Q) : PW X e t' := ⟨fun wh pins s σ H Q I q => h.run wh pins s σ H Q I (i _ _ _ q)⟩
theorem PS.imp {X : Cx} {e : Stmt} {t t' : TS} (h : PS X e t) (i : ∀ D σ H, t' D σ H → t D σ H) : PS X e t' := ⟨fun pins s σ H D I q => h.run pins s σ H D I (i _ _ _ q)⟩
theorem PSs.imp {X : Cx} {e : List Stmt} {t t' : TS} (h : PSs X e t) (i : ∀ D σ H, t' D σ H → t D σ H) : PSs X e t' := ⟨fun pins s σ H D I q => h.run pins s σ H D I (i _ _ _ q)⟩

/-- the first piece, then the second -/
theorem tE_bind {w : Wd} {B H : Hp} {σ : L2.St} {ρ : List Sl} {m : M D} {k : D → R D} {Q : VK} (r : Rel w.K w.sx B H σ ρ) (h : Ev w B H σ Q ((m ρ).bind k)) :
    tE w m σ H (fun v H' => ∃ d B', m ρ = .ok d ∧ Ext B H B' H' ∧ Dp w.K B' v d ∧ Ev w B' H' σ Q (k d)) := by
  refine ⟨B, ρ, r, ?_⟩
  cases e : m ρ with
  | ok d =>
    rw [e] at h
    exact fun v B' H' x hd => ⟨d, B', rfl, x, hd, Ev.mono x h⟩
  | exc c f => rw [e] at h; exact h
  | stuck => rw [e] at h; exact h
theorem tE_bindT {w : Wd} {B H : Hp} {σ : L2.St} {ρ : List Sl} {m : M D} {k : D → R Bool} {Q : Bool → Hp → Prop} (r : Rel w.K w.sx B H σ ρ) (h : EvT w B H σ Q ((m ρ).bind k)) :
    tE w m σ H (fun v H' => ∃ d B', m ρ = .ok d ∧ Ext B H B' H' ∧ Dp w.K B' v d ∧ EvT w B' H' σ Q (k d)) := by
  refine ⟨B, ρ, r, ?_⟩
  cases e : m ρ with
  | ok d =>
    rw [e] at h
    exact fun v B' H' x hd => ⟨d, B', rfl, x, hd, EvT.mono x h⟩
  | exc c f => rw [e] at h; exact h
  | stuck => rw [e] at h; exact h
theorem tE_bindA {w : Wd} {B H : Hp} {σ : L2.St} {ρ : List Sl} {m : M D} {k : D → R (List D)} {Q : List V → Hp → Prop} (r : Rel w.K w.sx B H σ ρ) (h : EvA w B H σ Q ((m ρ).bind k)) :
    tE w m σ H (fun v H' => ∃ d B', m ρ = .ok d ∧ Ext B H B' H' ∧ Dp w.K B' v d ∧ EvA w B' H' σ Q (k d)) := by
  refine ⟨B, ρ, r, ?_⟩
  cases e : m ρ with
  | ok d =>
    rw [e] at h
    exact fun v B' H' x hd => ⟨d, B', rfl, x, hd, EvA.mono x h⟩
  | exc c f => rw [e] at h; exact h
  | stuck => rw [e] at h; exact h
theorem tA_bind {w : Wd} {B H : Hp} {σ : L2.St} {ρ : List Sl} {m : M (List D)} {k : List D → R D} {Q : VK} (r : Rel w.K w.sx B H σ ρ) (h : Ev w B H σ Q ((m ρ).bind k)) :
    tA w m σ H (fun v H' => ∃ d B', m ρ = .ok d ∧ Ext B H B' H' ∧ DpAll w.K B' v d ∧ Ev w B' H' σ Q (k d)) := by
  refine ⟨B, ρ, r, ?_⟩
  cases e : m ρ with
  | ok d =>
    rw [e] at h
    exact fun v B' H' x hd => ⟨d, B', rfl, x, hd, Ev.mono x h⟩
  | exc c f => rw [e] at h; exact h
  | stuck => rw [e] at h; exact h
theorem tA_bindA {w : Wd} {B H : Hp} {σ : L2.St} {ρ : List Sl} {m : M (List D)} {k : List D → R (List D)} {Q : List V → Hp → Prop} (r : Rel w.K w.sx B H σ ρ) (h : EvA w B H σ Q ((m ρ).bind k)) :
    tA w m σ H (fun v H' => ∃ d B', m ρ = .ok d ∧ Ext B H B' H' ∧ DpAll w.K B' v d ∧ EvA w B' H' σ Q (k d)) := by
  refine ⟨B, ρ, r, ?_⟩
  cases e : m ρ with
  | ok d =>
    rw [e] at h
    exact fun v B' H' x hd => ⟨d, B', rfl, x, hd, EvA.mono x h⟩
  | exc c f => rw [e] at h; exact h
  | stuck => rw [e] at h; exact h
theorem tT_bind {w : Wd} {B H : Hp} {σ : L2.St} {ρ : List Sl} {m : M Bool} {k : Bool → R D} {Q : VK} (r : Rel w.K w.sx B H σ ρ) (h : Ev w B H σ Q ((m ρ).bind k)) :
    tT w m σ H (fun b H' => ∃ B', m ρ = .ok b ∧ Ext B H B' H' ∧ Ev w B' H' σ Q (k b)) := by
  refine ⟨B, ρ, r, ?_⟩
  cases e : m ρ with
  | ok d =>
    rw [e] at h
    exact fun B' H' x => ⟨B', rfl, x, Ev.mono x h⟩
  | exc c f => rw [e] at h; exact h
  | stuck => rw [e] at h; exact h
theorem tT_bindT {w : Wd} {B H : Hp} {σ : L2.St} {ρ : List Sl} {m : M Bool} {k : Bool → R Bool} {Q : Bool → Hp → Prop} (r : Rel w.K w.sx B H σ ρ) (h : EvT w B H σ Q ((m ρ).bind k)) :
    tT w m σ H (fun b H' => ∃ B', m ρ = .ok b ∧ Ext B H B' H' ∧ EvT w B' H' σ Q (k b)) := by
  refine ⟨B, ρ, r, ?_⟩
  cases e : m ρ with
  | ok d =>
    rw [e] at h
    exact fun B' H' x => ⟨B', rfl, x, EvT.mono x h⟩
  | exc c f => rw [e] at h; exact h
  | stuck => rw [e] at h; exact h
end CH

/-! CH 2: what operators do to data. -/
namespace CH
open PySem PySem.Spec PyProof.Rows L2

/-- lists and texts of at most so many items -/
abbrev lim : Nat := 1000000
theorem lim_line : lim + lim ≤ sizeLine := by rw [sizeLine_eq]; decide

/-- a number within ± m, so written that nothing is computed of an unknown one -/
def smI (m : Nat) : Int → Bool
  | .ofNat n => Nat.ble n m
  | .negSucc n => Nat.ble (n + 1) m
theorem smI_iff {m : Nat} {j : Int} : smI m j = true ↔ -(m : Int) ≤ j ∧ j ≤ m := by
  cases j with
  | ofNat n => show Nat.ble n m = true ↔ -(m : Int) ≤ (n : Int) ∧ (n : Int) ≤ m; rw [Nat.ble_eq]; omega
  | negSucc n => show Nat.ble (n + 1) m = true ↔ _; rw [Nat.ble_eq, Int.negSucc_eq]; omega
def dAdd : D → D → Option D
  | .int i, .int j => some (.int (i + j))
  | .str a, .str b => if a.length + b.length ≤ lim then some (.str (a ++ b)) else none
  | .tuple a, .tuple b => if a.length + b.length ≤ lim then some (.tuple (a ++ b)) else none
  | .list a, .list b => if a.length + b.length ≤ lim then some (.list (a ++ b)) else none
  | _, _ => none
def dSub : D → D → Option D
  | .int i, .int j => some (.int (i - j))
  | _, _ => none
def strRep (a : Str) (n : Nat) : Str := ⟨(List.replicate n a.cps.toList).flatten.toArray⟩
def dMul : D → D → Option D
  | .int i, .int j => if smI 1000000000000 j = true then some (.int (i * j)) else none
  | .str a, .int n => if 0 ≤ n ∧ n ≤ 1000 ∧ a.length ≤ 1000 then some (.str (strRep a n.toNat)) else none
  | .tuple a, .int n => if a ≠ [] ∧ 2 ≤ n ∧ n ≤ 1000 ∧ a.length ≤ 1000 then some (.tuple (List.replicate n.toNat a).flatten) else none
  | .list a, .int n => if 0 ≤ n ∧ n ≤ 1000 ∧ a.length ≤ 1000 then some (.list (List.replicate n.toNat a).flatten) else none
  | _, _ => none
def dDiv : D → D → Option D
  | .int i, .int j => if 0 < j ∧ j < 1073741824 then some (.int (i / j)) else none
  | _, _ => none
def dMod : D → D → Option D
  | .int i, .int j => if 0 < j then some (.int (i % j)) else none
  | _, _ => none
def dPow : D → D → Option D
  | .int i, .int j => if 0 ≤ j ∧ j ≤ 1000000 ∧ i.natAbs < 1000000000000 then some (.int (i ^ j.toNat)) else none
  | _, _ => none
def dBin : Operator → D → D → Option D
  | .Add => dAdd
  | .Sub => dSub
  | .Mult => dMul
  | .FloorDiv => dDiv
  | .Mod => dMod
  | .Pow => dPow
  | _ => fun _ _ => none
def dNeg : D → Option D
  | .int i => some (.int (-i))
  | _ => none

def isN : D → Bool
  | .none => true
  | _ => false
def dEq (d e : D) : Option D := if min d.depth e.depth ≤ 400 then some (.bool (PyData.eqv d e)) else none
def dNe (d e : D) : Option D := if min d.depth e.depth ≤ 400 then some (.bool (!PyData.eqv d e)) else none
def dLt : D → D → Option D
  | .int i, .int j => some (.bool (decide (i < j)))
  | .str a, .str b => some (.bool (decide (a.cps.toList < b.cps.toList)))
  | _, _ => none
def dLe : D → D → Option D
  | .int i, .int j => some (.bool (decide (i ≤ j)))
  | _, _ => none
def dGt : D → D → Option D
  | .int i, .int j => some (.bool (decide (j < i)))
  | _, _ => none
def dGe : D → D → Option D
  | .int i, .int j => some (.bool (decide (j ≤ i)))
  | .str a, .str b => some (.bool (!decide (a.cps.toList < b.cps.toList)))
  | _, _ => none
/-- x in c -/
def inB : D → D → Option Bool
  | d, .list xs => if min (PyData.depthAll xs) d.depth ≤ 400 then some (xs.any fun y => PyData.eqv y d) else none
  | d, .tuple xs => if min (PyData.depthAll xs) d.depth ≤ 400 then some (xs.any fun y => PyData.eqv y d) else none
  | .str x, .str z => match x.cps.toList with
    | [c] => some (decide (c ∈ z.cps.toList))
    | _ => none
  | _, _ => none
def dIn (d c : D) : Option D := (inB d c).map .bool
def dNotIn (d c : D) : Option D := (inB d c).map fun b => .bool (!b)
def dIs : D → D → Option D
  | d, .none => some (.bool (isN d))
  | .bool a, .bool b => some (.bool (decide (a = b)))
  | _, _ => none
def dIsNot : D → D → Option D
  | d, .none => some (.bool (!isN d))
  | _, _ => none
def dCmp : CmpOp → D → D → Option D
  | .Eq => dEq
  | .NotEq => dNe
  | .Lt => dLt
  | .LtE => dLe
  | .Gt => dGt
  | .GtE => dGe
  | .In => dIn
  | .NotIn => dNotIn
  | .Is => dIs
  | .IsNot => dIsNot

def dTru : D → Option Bool
  | .none => some false
  | .bool b => some b
  | .int i => some (i != 0)
  | .str x => if x.length ≤ lim then some (x.length != 0) else none
  | .list xs => some (!xs.isEmpty)
  | .tuple xs => some (!xs.isEmpty)
  | .dict _ => none
def dIx : D → D → Option D
  | .list xs, .int i => atI xs i
  | .tuple xs, .int i => atI xs i
  | .str z, .int i => if z.length ≤ lim then (atI z.cps.toList i).map fun c => .str ⟨#[c]⟩ else none
  | _, _ => none
def cutD (xs : List D) (lo hi : Option Int) : List D := (xs.drop (HT.sIx xs.length 0 lo)).take (HT.sIx xs.length xs.length hi - HT.sIx xs.length 0 lo)
def dSl : D → Option Int → Option Int → Option D
  | .list xs, lo, hi => some (.list (cutD xs lo hi))
  | .tuple xs, lo, hi => some (.tuple (cutD xs lo hi))
  | .str z, lo, hi => if z.length ≤ lim then some (.str (cutS z lo hi)) else none
  | _, _, _ => none

def r2 (K : PySem.W.Frag) (f : D → D → Option D) : R2 := fun x y H Q => ∃ B d e z, Same B H ∧ Dp K B x d ∧ Dp K B y e ∧ f d e = some z ∧ ∀ v B' H', Ext B H B' H' → Dp K B' v z → Q v H'

section
variable {K : PySem.W.Frag} {B H : Hp} {Q : VK}
theorem fin_tup {vs : List V} {ds : List D} (s : Same B H) (r : DpAll K B vs ds) (q : ∀ v B' H', Ext B H B' H' → Dp K B' v (.tuple ds) → Q v H') : ∀ p, H p = none → Q (.ref p) (upd H p (.tup vs)) := fun p np =>
  q _ _ _ (Ext.new s np) (Dp.tup_new (r.same (upd_free (s.free np))))
theorem fin_lst {vs : List V} {ds : List D} (s : Same B H) (r : DpAll K B vs ds) (q : ∀ v B' H', Ext B H B' H' → Dp K B' v (.list ds) → Q v H') : ∀ p, H p = none → Q (.ref p) (upd H p (.lst vs)) := fun p np =>
  q _ _ _ (Ext.new s np) (Dp.lst_new (r.same (upd_free (s.free np))))
theorem fin_same {v : V} {d : D} (s : Same B H) (r : Dp K B v d) (q : ∀ v B' H', Ext B H B' H' → Dp K B' v d → Q v H') : Q v H := q _ _ _ (Ext.refl s) r
end

/-! ### list + list, wherever they stand -/
theorem list_addW (l : Addr) (items : Array Value) (n : Nat) (dd : Option Addr) (sl : Array (Option Value)) (b : Addr) (items2 : Array Value) (n2 : Nat) (dd2 : Option Addr) (sl2 : Array (Option Value)) (hc0 : items.size + items2.size ≤ sizeLine) :
    Meets (Builtin.«list.__add__» ⟨[.ref l, .ref b], []⟩) (fun _ R s => s.heap.get? l = some { cls := .type "list", dict := dd, data := .seq items n, slots := sl } ∧ s.heap.get? b = some { cls := .type "list", dict := dd2, data := .seq items2 n2, slots := sl2 } ∧
      R (.ok (.ret (Value.ref s.heap.objs.size))) { s with heap := s.heap.push { cls := .type "list", data := .seq (items ++ items2) } }) :=
  .of_wp fun prog w A R s h => by
    obtain ⟨hp, g, d, tk, os⟩ := s; obtain ⟨hl, hb, h⟩ := h; have f1 := AutoSeq1.idx_int; have f2 := AutoSeq1.sub_tuple_tuple; have f3 := AutoSeq1.sub_list_list; have f4 := AutoSeq1.sub_tuple_list; have f5 := AutoSeq1.sub_list_tuple
    wp_walk using AutoSeq1.wpAny_loadPart' hl, AutoSeq1.wpAny_loadPart' hb
    exact ⟨_, rfl, h⟩

section
variable {X : Cx}
def rCatL (K : PySem.W.Frag) : R2 := fun x y H Q => ∃ l b xs zs, x = .ref l ∧ y = .ref b ∧ SqL K H l xs ∧ SqL K H b zs ∧ xs.length + zs.length ≤ sizeLine ∧ ∀ p, H p = none → Q (.ref p) (upd H p (.lst (xs ++ zs)))
theorem op_catL : OpR X (binaryOp .Add) (rCatL X.K) := by
  intro pins s σ H x y v u Q I rx ry h
  obtain ⟨l, b, xs, zs, rfl, rfl, hH, hB, hz, q⟩ := h
  cases rx
  cases ry
  obtain ⟨its, r, ⟨⟨c1, d1, dt1, sl1⟩, n, e, hc, _, hd⟩, z⟩ := I.list hH
  obtain ⟨its2, r2, ⟨⟨c2, d2, dt2, sl2⟩, n2, e2, hc2, _, hd2⟩, z2⟩ := I.list hB
  simp only at hc hd hc2 hd2
  subst hc hd hc2 hd2
  have hl := r.length
  have hl2 := r2.length
  refine concat_meets ⟨_, e, rfl⟩ ⟨_, e2, rfl⟩ noFill_list_add seq_list_add F.slot_list_add F.entry_list_add (F.args_list_add_2 _ _) (list_addW l its.toArray n d1 sl1 b its2.toArray n2 d2 sl2 (by rw [List.size_toArray, List.size_toArray]; omega)) ⟨e, e2, ?_⟩
  have ea : its.toArray ++ its2.toArray = (its ++ its2).toArray := by simp
  rw [ea]
  exact ⟨.ref _, _, I.lnew (t' := s.toks) (r.append r2) (by rw [List.length_append]; omega), rfl, q _ I.fresh⟩

theorem or_add : OpR X (binaryOp .Add) (r2 X.K dAdd) := by
  intro pins s σ H x y v u Q I rx ry h
  obtain ⟨B, d, e, z, sb, hd, he, hz, q⟩ := h
  have ll := lim_line
  cases hd with
  | int i =>
    cases he with
    | int j => cases hz; exact op_add pins s σ H _ _ v u Q I rx ry ⟨i, j, rfl, rfl, fin_same sb (.int _) q⟩
    | _ => cases hz
  | str a =>
    cases he with
    | str b =>
      simp only [dAdd] at hz
      split at hz
      · cases hz; exact op_add_str pins s σ H _ _ v u Q I rx ry ⟨a, b, rfl, rfl, by omega, fin_same sb (.str _) q⟩
      · cases hz
    | _ => cases hz
  | tup h1 r1 =>
    cases he with
    | tup h2 r2 =>
      simp only [dAdd] at hz
      split at hz
      · cases hz
        rename_i hl
        have l1 := r1.length
        have l2 := r2.length
        refine op_catA pins s σ H _ _ v u Q I rx ry ⟨_, _, _, _, rfl, rfl, sb.seqT h1, sb.seqT h2, by omega, fun e => ?_, fun _ e => ?_, fun _ _ => fin_tup sb (r1.append r2) q⟩
        · subst e
          cases r1
          exact fin_same sb (.tup h2 r2) q
        · subst e
          cases r2
          exact fin_same sb (.tup h1 (by rw [List.append_nil]; exact r1)) q
      · cases hz
    | _ => cases hz
  | lst h1 r1 =>
    cases he with
    | lst h2 r2 =>
      simp only [dAdd] at hz
      split at hz
      · cases hz
        rename_i hl
        have l1 := r1.length
        have l2 := r2.length
        exact op_catL pins s σ H _ _ v u Q I rx ry ⟨_, _, _, _, rfl, rfl, sb.seq h1, sb.seq h2, by omega, fin_lst sb (r1.append r2) q⟩
      · cases hz
    | _ => cases hz
  | non => cases he <;> cases hz
  | bl b => cases he <;> cases hz
theorem or_sub : OpR X (binaryOp .Sub) (r2 X.K dSub) := by
  intro pins s σ H x y v u Q I rx ry h
  obtain ⟨B, d, e, z, sb, hd, he, hz, q⟩ := h
  cases hd with
  | int i =>
    cases he with
    | int j => cases hz; exact op_sub pins s σ H _ _ v u Q I rx ry ⟨i, j, rfl, rfl, fin_same sb (.int _) q⟩
    | _ => cases hz
  | _ => cases he <;> cases hz
theorem cps_flat (a : Array Nat) : ∀ (n : Nat) (acc : Array Nat), (List.replicate n a).foldl (· ++ ·) acc = acc ++ (List.replicate n a.toList).flatten.toArray
  | 0, acc => by simp
  | n + 1, acc => by
    rw [List.replicate_succ, List.foldl_cons, cps_flat a n, List.replicate_succ, List.flatten_cons]
    apply Array.toList_inj.mp
    simp
theorem flat_len {α : Type} (xs : List α) : ∀ k : Nat, (List.replicate k xs).flatten.length = xs.length * k
  | 0 => by simp
  | k + 1 => by rw [List.replicate_succ, List.flatten_cons, List.length_append, flat_len xs k, Nat.mul_succ]; omega
/-! ### list * int, wherever it stands -/
theorem list_mulW (l : Addr) (items : Array Value) (n : Nat) (x : Int) (u : Tok) (dd : Option Addr) (sl : Array (Option Value)) (hc0 : ¬(!Builtin.List.listFitsIndex x) = true) (hc1 : ¬items.size * x.toNat > (2 ^ 63 - 1) / 8) (hc2 : ¬Builtin.List.listTooLong (items.size * x.toNat) = true) (hsz : (List.foldl (fun x1 x2 => x1 ++ x2) #[] (List.replicate (if items.isEmpty = true then 0 else x.toNat) items)).size ≤ sizeLine) :
    Meets (Builtin.«list.__mul__» ⟨[.ref l, .int x u], []⟩) (fun _ R s => s.heap.get? l = some { cls := .type "list", dict := dd, data := .seq items n, slots := sl } ∧ R (.ok (.ret (Value.ref s.heap.objs.size))) { s with heap := s.heap.push { cls := Value.type "list", data := Data.seq (List.foldl (fun x1 x2 => x1 ++ x2) #[] (List.replicate (if items.isEmpty = true then 0 else x.toNat) items)) }, toks := s.toks }) :=
  .of_wp fun prog w A R s h => by
    obtain ⟨hp, g, d, tk, os⟩ := s; obtain ⟨hl, h⟩ := h
    wp_walk using AutoSeq1.wpAny_loadPart' hl
    refine wpAny_ite_false (decide_eq_false (Nat.not_lt.mpr hsz)) ?_
    wp_walk
    exact ⟨_, rfl, h⟩
theorem rmulW (a : Int) (t : Tok) (l : Addr) (items : Array Value) (n : Nat) (dd : Option Addr) (sl : Array (Option Value)) :
    Meets (Builtin.«int.__rmul__» ⟨[.int a t, .ref l], []⟩) (fun _ R s => s.heap.get? l = some { cls := .type "list", dict := dd, data := .seq items n, slots := sl } ∧ R (.ok (.ret Value.notImplemented)) s) :=
  .of_wp fun prog w A R s h => by obtain ⟨hp, g, d, tk, os⟩ := s; obtain ⟨hl, h⟩ := h; wp_walk using AutoSeq1.wpAny_loadPart' hl; exact ⟨_, rfl, h⟩
def rRepL (K : PySem.W.Frag) : R2 := fun x y H Q => ∃ l k xs, x = .ref l ∧ y = .int k ∧ SqL K H l xs ∧ -(2 ^ 63) ≤ k ∧ k < 2 ^ 63 ∧ xs.length * k.toNat ≤ sizeLine ∧ ∀ p, H p = none → Q (.ref p) (upd H p (.lst (List.replicate k.toNat xs).flatten))
theorem op_repL : OpR X (binaryOp .Mult) (rRepL X.K) := by
  intro pins s σ H x y v u Q I rx ry h
  obtain ⟨l, k, xs, rfl, rfl, hH, h1, h2, hz, q⟩ := h
  cases rx
  obtain ⟨t, rfl⟩ := ry
  obtain ⟨its, r, ⟨⟨c1, d1, dt1, sl1⟩, n, e, hc, _, hd⟩, z⟩ := I.list hH
  simp only at hc hd
  subst hc hd
  have hl := r.length
  have hlen : its.toArray.size * k.toNat ≤ sizeLine := by rw [List.size_toArray, ← hl]; exact hz
  have hcap : ¬ its.toArray.size * k.toNat > (2 ^ 63 - 1) / 8 := by
    have : (sizeLine : Nat) ≤ (2 ^ 63 - 1) / 8 := by decide
    omega
  have hfit : ¬ (!Builtin.List.listFitsIndex k) = true := by
    rw [fitsIndex_both h1 h2]
    exact Bool.false_ne_true
  have hlong : ¬ Builtin.List.listTooLong (its.toArray.size * k.toNat) = true := by
    rw [notLongL hlen]
    exact Bool.false_ne_true
  have hnew : List.foldl (fun x1 x2 => x1 ++ x2) #[] (List.replicate (if its.toArray.isEmpty = true then 0 else k.toNat) its.toArray) = (List.replicate k.toNat its).flatten.toArray := by
    have f0 : ∀ m : Nat, List.foldl (fun x1 x2 => x1 ++ x2) #[] (List.replicate m its.toArray) = (List.replicate m its).flatten.toArray := fun m => by
      have := foldl_rep its m []
      rw [List.nil_append] at this
      exact this
    rw [f0]
    cases its with
    | nil => simp
    | cons a r' => rw [if_neg (by simp)]
  have hsz : (List.foldl (fun x1 x2 => x1 ++ x2) #[] (List.replicate (if its.toArray.isEmpty = true then 0 else k.toNat) its.toArray)).size ≤ sizeLine := by
    rw [hnew, List.size_toArray, PyProof.Rows.lm_len_rep_flat, Nat.mul_comm, ← hl]; exact hz
  refine wpAny_binaryOp_repeat_ref (T := "list") (U := "int") (by decide) ⟨_, e, rfl⟩ (fun s' => typeIs_int s' k t) noFill_list_mul F.fills_int_mul F.slot_int_rmul repeat_list F.slot_int_index.lookup
    (call_meets F.slot_int_rmul (typeIs_int s k t) F.entry_int_rmul (F.args_int_rmul_2 _ _) (rmulW k t l its.toArray n d1 sl1)
      ⟨e, rfl, ⟨_, e, rfl⟩, call_meets F.slot_list_mul ⟨_, e, rfl⟩ F.entry_list_mul (F.args_list_mul_2 _ _) (list_mulW l its.toArray n k t d1 sl1 hfit hcap hlong hsz) ⟨e, ?_⟩⟩)
  rw [hnew]
  exact ⟨.ref _, _, I.lnew (t' := s.toks) (r.rep k.toNat) (by rw [PyProof.Rows.lm_len_rep_flat, Nat.mul_comm]; exact hz), rfl, q _ I.fresh⟩
theorem or_mul : OpR X (binaryOp .Mult) (r2 X.K dMul) := by
  intro pins s σ H x y v u Q I rx ry h
  obtain ⟨B, d, e, z, sb, hd, he, hz, q⟩ := h
  cases hd with
  | int i =>
    cases he with
    | int j =>
      simp only [dMul] at hz
      split at hz
      · rename_i hj
        cases hz
        exact op_mul pins s σ H _ _ v u Q I rx ry ⟨i, j, rfl, rfl, .inr (by have := smI_iff.mp hj; exact ⟨by omega, by omega⟩), fin_same sb (.int _) q⟩
      · cases hz
    | _ => cases hz
  | str a =>
    cases he with
    | int n =>
      simp only [dMul] at hz
      split at hz
      · rename_i hn
        cases hz
        obtain ⟨t, rfl⟩ := rx
        obtain ⟨t', rfl⟩ := ry
        obtain ⟨h0, h1, h2⟩ := hn
        have sz : (a.length : Int) ≤ 1000 := by omega
        have q' := q (.str (strRep a n.toNat)) B H (Ext.refl sb) (.str _)
        refine PySem.P.mul_str (by
          have e1 : ¬ n < -(2 ^ 63 : Int) := by omega
          have e2 : ¬ n ≥ 2 ^ 63 := by omega
          rw [decide_eq_false e1, decide_eq_false e2]; rfl) (fun g1 _ => ?_) (fun g1 _ => ?_) ?_
        · have : (1000000 : Int) ≤ (2 ^ 63 - 1) / n := by
            refine (Int.le_ediv_iff_mul_le (by omega)).mpr ?_
            have : (1000000 : Int) * n ≤ 1000000 * 1000 := by omega
            omega
          omega
        · have hm : a.length * n.toNat ≤ 1000 * 1000 := Nat.mul_le_mul h2 (by omega)
          unfold Builtin.Str.tooLong
          exact decide_eq_false (by have := sizeLine_eq; omega)
        · by_cases c1 : n < 1
          · rw [if_pos c1]
            have en : n.toNat = 0 := by omega
            have e0 : strRep a n.toNat = Str.empty := by rw [en]; rfl
            rw [e0] at q'
            exact ⟨by decide, ⟨.str Str.empty, H, I.tok _, ⟨_, rfl⟩, q'⟩⟩
          · rw [if_neg c1]
            by_cases c2 : (n == 1 || a.length == 0) = true
            · rw [if_pos c2]
              have e0 : strRep a n.toNat = a := by
                rcases Bool.or_eq_true_iff.mp c2 with c | c
                · have en : n = 1 := beq_iff_eq.mp c
                  subst en
                  show (⟨((List.replicate 1 a.cps.toList).flatten).toArray⟩ : Str) = a
                  cases a
                  simp
                · have ea : a.length = 0 := beq_iff_eq.mp c
                  have ec : a.cps = #[] := Array.size_eq_zero_iff.mp ea
                  unfold strRep
                  cases a
                  simp only at ec
                  subst ec
                  simp
              rw [e0] at q'
              exact ⟨.str a, H, I, ⟨_, rfl⟩, q'⟩
            · rw [if_neg c2]
              have e0 : (⟨(List.replicate n.toNat a.cps).foldl (· ++ ·) #[]⟩ : Str) = strRep a n.toNat := by
                rw [cps_flat]
                simp [strRep]
              rw [e0]
              refine ⟨?_, ⟨.str _, H, I.tok _, ⟨_, rfl⟩, q'⟩⟩
              show (strRep a n.toNat).length ≤ _
              have hm : a.length * n.toNat ≤ 1000 * 1000 := Nat.mul_le_mul h2 (by omega)
              have : (strRep a n.toNat).length = a.length * n.toNat := by
                show ((List.replicate n.toNat a.cps.toList).flatten.toArray).size = a.cps.size * n.toNat
                rw [List.size_toArray, flat_len, Array.length_toList]
              have := sizeLine_eq
              omega
      · cases hz
    | _ => cases hz
  | tup h1 r1 =>
    cases he with
    | int n =>
      simp only [dMul] at hz
      split at hz
      · rename_i hn
        cases hz
        obtain ⟨g1, g2, g3, g4⟩ := hn
        have l1 := r1.length
        exact op_repT pins s σ H _ _ v u Q I rx ry ⟨_, n, _, rfl, rfl, sb.seqT h1, fun e => g1 (by subst e; cases r1; rfl), g2, g3, by omega, fin_tup sb (r1.rep _) q⟩
      · cases hz
    | _ => cases hz
  | lst h1 r1 =>
    cases he with
    | int n =>
      simp only [dMul] at hz
      split at hz
      · rename_i hn
        cases hz
        obtain ⟨g1, g2, g3⟩ := hn
        have l1 := r1.length
        refine op_repL pins s σ H _ _ v u Q I rx ry ⟨_, n, _, rfl, rfl, sb.seq h1, by omega, by omega, ?_, fin_lst sb (r1.rep _) q⟩
        have key : ∀ k : Nat, k ≤ 1000 → k * n.toNat ≤ 1000 * 1000 := fun k h => Nat.mul_le_mul h (by omega)
        have := key _ (Nat.le_trans (Nat.le_of_eq l1) g3)
        have := sizeLine_eq
        omega
      · cases hz
    | _ => cases hz
  | _ => cases he <;> cases hz
theorem or_div : OpR X (binaryOp .FloorDiv) (r2 X.K dDiv) := by
  intro pins s σ H x y v u Q I rx ry h
  obtain ⟨B, d, e, z, sb, hd, he, hz, q⟩ := h
  cases hd with
  | int i =>
    cases he with
    | int j =>
      simp only [dDiv] at hz
      split at hz
      · rename_i hj
        cases hz
        exact op_fdiv pins s σ H _ _ v u Q I rx ry ⟨i, j, rfl, rfl, hj, fin_same sb (.int _) q⟩
      · cases hz
    | _ => cases hz
  | _ => cases he <;> cases hz
theorem or_mod : OpR X (binaryOp .Mod) (r2 X.K dMod) := by
  intro pins s σ H x y v u Q I rx ry h
  obtain ⟨B, d, e, z, sb, hd, he, hz, q⟩ := h
  cases hd with
  | int i =>
    cases he with
    | int j =>
      simp only [dMod] at hz
      split at hz
      · rename_i hj
        cases hz
        exact op_mod pins s σ H _ _ v u Q I rx ry ⟨i, j, rfl, rfl, hj, fin_same sb (.int _) q⟩
      · cases hz
    | _ => cases hz
  | _ => cases he <;> cases hz
theorem or_pow : OpR X (binaryOp .Pow) (r2 X.K dPow) := by
  intro pins s σ H x y v u Q I rx ry h
  obtain ⟨B, d, e, z, sb, hd, he, hz, q⟩ := h
  cases hd with
  | int i =>
    cases he with
    | int j =>
      simp only [dPow] at hz
      split at hz
      · rename_i hj
        cases hz
        exact op_pow pins s σ H _ _ v u Q I rx ry ⟨i, j, rfl, rfl, ⟨hj.1, hj.2.1, by have := hj.2.2; omega⟩, fin_same sb (.int _) q⟩
      · cases hz
    | _ => cases hz
  | _ => cases he <;> cases hz
theorem or_bin (op : Operator) : OpR X (binaryOp op) (r2 X.K (dBin op)) := by
  cases op with
  | Add => exact or_add
  | Sub => exact or_sub
  | Mult => exact or_mul
  | FloorDiv => exact or_div
  | Mod => exact or_mod
  | Pow => exact or_pow
  | _ =>
    intro pins s σ H x y v u Q I rx ry h
    obtain ⟨B, d, e, z, sb, hd, he, hz, q⟩ := h
    cases hz
end
end CH

/-! CH 3: comparisons, truth, subscripts, slices of data. -/
namespace CH
open PySem PySem.Spec PyProof.Rows L2
section
variable {X : Cx}
theorem or_eq (hu : X.A.units + 500 < cLine) : OpR X (compareOp .Eq) (r2 X.K dEq) := by
  intro pins s σ H x y v u Q I rx ry h
  obtain ⟨B, d, e, z, sb, hd, he, hz, q⟩ := h
  simp only [dEq] at hz
  split at hz
  · cases hz
    obtain ⟨as, r1⟩ := Dp.reads I d x v (hd.same sb) rx
    obtain ⟨bs, r2⟩ := Dp.reads I e y u (he.same sb) ry
    exact SeqAt.eq_plain r1 r2 hd.plain he.plain (by omega) ⟨.bl _, H, I, rfl, fin_same sb (.bl _) q⟩
  · cases hz
theorem or_ne (hu : X.A.units + 500 < cLine) : OpR X (compareOp .NotEq) (r2 X.K dNe) := by
  intro pins s σ H x y v u Q I rx ry h
  obtain ⟨B, d, e, z, sb, hd, he, hz, q⟩ := h
  simp only [dNe] at hz
  split at hz
  · cases hz
    obtain ⟨as, r1⟩ := Dp.reads I d x v (hd.same sb) rx
    obtain ⟨bs, r2⟩ := Dp.reads I e y u (he.same sb) ry
    exact SeqAt.ne_plain r1 r2 hd.plain he.plain (by omega) ⟨.bl _, H, I, rfl, fin_same sb (.bl _) q⟩
  · cases hz
theorem or_lt : OpR X (compareOp .Lt) (r2 X.K dLt) := by
  intro pins s σ H x y v u Q I rx ry h
  obtain ⟨B, d, e, z, sb, hd, he, hz, q⟩ := h
  cases hd with
  | int i =>
    cases he with
    | int j => cases hz; exact op_lt pins s σ H _ _ v u Q I rx ry ⟨i, j, rfl, rfl, fin_same sb (.bl _) q⟩
    | _ => cases hz
  | str i =>
    cases he with
    | str j => cases hz; exact op_lt_str pins s σ H _ _ v u Q I rx ry ⟨i, j, rfl, rfl, fin_same sb (.bl _) q⟩
    | _ => cases hz
  | _ => cases he <;> cases hz
theorem or_le : OpR X (compareOp .LtE) (r2 X.K dLe) := by
  intro pins s σ H x y v u Q I rx ry h
  obtain ⟨B, d, e, z, sb, hd, he, hz, q⟩ := h
  cases hd with
  | int i =>
    cases he with
    | int j => cases hz; exact op_le pins s σ H _ _ v u Q I rx ry ⟨i, j, rfl, rfl, fin_same sb (.bl _) q⟩
    | _ => cases hz
  | _ => cases he <;> cases hz
theorem or_gt : OpR X (compareOp .Gt) (r2 X.K dGt) := by
  intro pins s σ H x y v u Q I rx ry h
  obtain ⟨B, d, e, z, sb, hd, he, hz, q⟩ := h
  cases hd with
  | int i =>
    cases he with
    | int j => cases hz; exact op_gt pins s σ H _ _ v u Q I rx ry ⟨i, j, rfl, rfl, fin_same sb (.bl _) q⟩
    | _ => cases hz
  | _ => cases he <;> cases hz
theorem or_ge : OpR X (compareOp .GtE) (r2 X.K dGe) := by
  intro pins s σ H x y v u Q I rx ry h
  obtain ⟨B, d, e, z, sb, hd, he, hz, q⟩ := h
  cases hd with
  | int i =>
    cases he with
    | int j => cases hz; exact op_ge pins s σ H _ _ v u Q I rx ry ⟨i, j, rfl, rfl, fin_same sb (.bl _) q⟩
    | _ => cases hz
  | str i =>
    cases he with
    | str j => cases hz; exact op_ge_str pins s σ H _ _ v u Q I rx ry ⟨i, j, rfl, rfl, fin_same sb (.bl _) q⟩
    | _ => cases hz
  | _ => cases he <;> cases hz
theorem sign_of {x : Str} {c : Nat} (h : x.cps.toList = [c]) : x = ⟨#[c]⟩ := by
  cases x
  simp only [Str.mk.injEq]
  apply Array.toList_inj.mp
  exact h
theorem or_in (hu : X.A.units + 500 < cLine) : OpR X (compareOp .In) (r2 X.K dIn) := by
  intro pins s σ H x y v u Q I rx ry h
  obtain ⟨B, d, e, z, sb, hd, he, hz, q⟩ := h
  unfold dIn at hz
  cases hb : inB d e with
  | none => rw [hb] at hz; cases hz
  | some b =>
    rw [hb] at hz
    cases hz
    have q1 : Q (.bl b) H := fin_same sb (.bl b) q
    cases he with
    | lst h1 r1 =>
      simp only [inB] at hb
      split at hb
      · cases hb
        obtain ⟨as, r1'⟩ := Dp.reads I d x v (hd.same sb) rx
        obtain ⟨bs, r2'⟩ := Dp.reads I (.list _) _ u ((Dp.lst h1 r1).same sb) ry
        exact SeqAt.in_list_data r2' r1' r1.plain hd.plain (by omega) ⟨.bl _, H, I, rfl, q1⟩
      · cases hb
    | tup h1 r1 =>
      simp only [inB] at hb
      split at hb
      · cases hb
        obtain ⟨as, r1'⟩ := Dp.reads I d x v (hd.same sb) rx
        obtain ⟨bs, r2'⟩ := Dp.reads I (.tuple _) _ u ((Dp.tup h1 r1).same sb) ry
        exact SeqAt.in_tuple_data r2' r1' r1.plain hd.plain (by omega) ⟨.bl _, H, I, rfl, q1⟩
      · cases hb
    | str z =>
      cases hd with
      | str w =>
        simp only [inB] at hb
        split at hb
        · rename_i c hc
          cases hb
          exact op_in_sign pins s σ H _ _ v u Q I rx ry ⟨c, z, by rw [sign_of hc], rfl, q1⟩
        · cases hb
      | _ => cases hb
    | _ => cases hd <;> cases hb
theorem or_notIn (hu : X.A.units + 500 < cLine) : OpR X (compareOp .NotIn) (r2 X.K dNotIn) := by
  intro pins s σ H x y v u Q I rx ry h
  obtain ⟨B, d, e, z, sb, hd, he, hz, q⟩ := h
  unfold dNotIn at hz
  cases hb : inB d e with
  | none => rw [hb] at hz; cases hz
  | some b =>
    rw [hb] at hz
    cases hz
    have q1 : Q (.bl (!b)) H := fin_same sb (.bl _) q
    cases he with
    | lst h1 r1 =>
      simp only [inB] at hb
      split at hb
      · cases hb
        obtain ⟨as, r1'⟩ := Dp.reads I d x v (hd.same sb) rx
        obtain ⟨bs, r2'⟩ := Dp.reads I (.list _) _ u ((Dp.lst h1 r1).same sb) ry
        exact SeqAt.notIn_list_data r2' r1' r1.plain hd.plain (by omega) ⟨.bl _, H, I, rfl, q1⟩
      · cases hb
    | tup h1 r1 =>
      simp only [inB] at hb
      split at hb
      · cases hb
        obtain ⟨as, r1'⟩ := Dp.reads I d x v (hd.same sb) rx
        obtain ⟨bs, r2'⟩ := Dp.reads I (.tuple _) _ u ((Dp.tup h1 r1).same sb) ry
        exact SeqAt.notIn_tuple_data r2' r1' r1.plain hd.plain (by omega) ⟨.bl _, H, I, rfl, q1⟩
      · cases hb
    | str z =>
      cases hd with
      | str w =>
        simp only [inB] at hb
        split at hb
        · rename_i c hc
          cases hb
          exact op_notIn_sign pins s σ H _ _ v u Q I rx ry ⟨c, z, by rw [sign_of hc], rfl, q1⟩
        · cases hb
      | _ => cases hb
    | _ => cases hd <;> cases hb
theorem non_is {K : PySem.W.Frag} {H : Hp} {x : V} {d : D} (h : Dp K H x d) : decide (x = V.non) = isN d := by
  cases h <;> first | rfl | exact decide_eq_false (fun z => nomatch z)
theorem or_is : OpR X (compareOp .Is) (r2 X.K dIs) := by
  intro pins s σ H x y v u Q I rx ry h
  obtain ⟨B, d, e, z, sb, hd, he, hz, q⟩ := h
  cases he with
  | non =>
    cases hz
    exact op_isN pins s σ H _ _ v u Q I rx ry ⟨rfl, by rw [non_is hd]; exact fin_same sb (.bl _) q⟩
  | bl b =>
    cases hd with
    | bl a =>
      cases hz
      exact op_is_bl pins s σ H _ _ v u Q I rx ry ⟨a, b, rfl, rfl, fin_same sb (.bl _) q⟩
    | _ => cases hz
  | _ => cases hd <;> cases hz
theorem or_isNot : OpR X (compareOp .IsNot) (r2 X.K dIsNot) := by
  intro pins s σ H x y v u Q I rx ry h
  obtain ⟨B, d, e, z, sb, hd, he, hz, q⟩ := h
  cases he with
  | non =>
    cases hz
    exact op_notN pins s σ H _ _ v u Q I rx ry ⟨rfl, by rw [non_is hd]; exact fin_same sb (.bl _) q⟩
  | _ => cases hz
theorem or_cmp (hu : X.A.units + 500 < cLine) (op : CmpOp) : OpR X (compareOp op) (r2 X.K (dCmp op)) := by
  cases op with
  | Eq => exact or_eq hu
  | NotEq => exact or_ne hu
  | Lt => exact or_lt
  | LtE => exact or_le
  | Gt => exact or_gt
  | GtE => exact or_ge
  | In => exact or_in hu
  | NotIn => exact or_notIn hu
  | Is => exact or_is
  | IsNot => exact or_isNot
theorem cmp_bool {op : CmpOp} {d e z : D} (h : dCmp op d e = some z) : ∃ b, z = .bool b := by
  cases op with
  | Eq => simp only [dCmp, dEq] at h; split at h <;> cases h; exact ⟨_, rfl⟩
  | NotEq => simp only [dCmp, dNe] at h; split at h <;> cases h; exact ⟨_, rfl⟩
  | Lt => simp only [dCmp] at h; unfold dLt at h; split at h <;> cases h <;> exact ⟨_, rfl⟩
  | LtE => simp only [dCmp] at h; unfold dLe at h; split at h <;> cases h <;> exact ⟨_, rfl⟩
  | Gt => simp only [dCmp] at h; unfold dGt at h; split at h <;> cases h <;> exact ⟨_, rfl⟩
  | GtE => simp only [dCmp] at h; unfold dGe at h; split at h <;> cases h <;> exact ⟨_, rfl⟩
  | In => simp only [dCmp, dIn] at h; cases hb : inB d e <;> rw [hb] at h <;> cases h; exact ⟨_, rfl⟩
  | NotIn => simp only [dCmp, dNotIn] at h; cases hb : inB d e <;> rw [hb] at h <;> cases h; exact ⟨_, rfl⟩
  | Is => simp only [dCmp] at h; unfold dIs at h; split at h <;> cases h <;> exact ⟨_, rfl⟩
  | IsNot => simp only [dCmp] at h; unfold dIsNot at h; split at h <;> cases h; exact ⟨_, rfl⟩

theorem tru_of {K : PySem.W.Frag} {H : Hp} {x : V} {d : D} {k : Bool} (h : Dp K H x d) (e : dTru d = some k) : TruV K x H k := by
  have ll := lim_line
  cases h with
  | non => cases e; rfl
  | bl b => cases e; rfl
  | int i => cases e; rfl
  | str x =>
    simp only [dTru] at e
    split at e
    · cases e
      refine ⟨by omega, ?_⟩
      by_cases hx : x.length = 0
      · rw [hx]; rfl
      · rw [bne_iff_ne.mpr hx, bne_iff_ne.mpr (fun z => hx (by omega))]
    · cases e
  | lst h1 r1 =>
    cases e
    refine .inl ⟨_, h1, ?_⟩
    cases r1 <;> rfl
  | tup h1 r1 =>
    cases e
    refine .inr (.inl ⟨_, h1, ?_⟩)
    cases r1 <;> rfl

theorem atI_some {α : Type} {xs : List α} {i : Int} {x : α} (h : atI xs i = some x) : ∃ j : Nat, ixN xs.length i = some j ∧ xs[j]? = some x := by
  unfold atI at h
  cases e : ixN xs.length i with
  | none => rw [e] at h; cases h
  | some j => rw [e] at h; exact ⟨j, rfl, h⟩
theorem atI_dp {K : PySem.W.Frag} {B : Hp} {vs : List V} {ds : List D} {i : Int} {d : D} (r : DpAll K B vs ds) (h : atI ds i = some d) : ∃ v, atI vs i = some v ∧ Dp K B v d := by
  obtain ⟨j, e, hj⟩ := atI_some h
  obtain ⟨v, hv, hd⟩ := r.get hj
  refine ⟨v, ?_, hd⟩
  unfold atI
  rw [r.length, e]
  exact hv
theorem ix_dat : IxR X (r2 X.K dIx) := by
  intro value slice pins s σ H x y v u Q I rx ry h hs
  obtain ⟨B, d, e, z, sb, hd, he, hz, q⟩ := h
  have ll := lim_line
  cases hd with
  | lst h1 r1 =>
    cases he with
    | int i =>
      obtain ⟨w, hw, hd'⟩ := atI_dp r1 hz
      exact ix_list value slice pins s σ H _ _ v u Q I rx ry ⟨_, _, i, w, rfl, rfl, sb.seq h1, hw, fin_same sb hd' q⟩ hs
    | _ => cases hz
  | tup h1 r1 =>
    cases he with
    | int i =>
      obtain ⟨w, hw, hd'⟩ := atI_dp r1 hz
      exact ix_tup value slice pins s σ H _ _ v u Q I rx ry ⟨_, _, i, w, rfl, rfl, sb.seqT h1, hw, fin_same sb hd' q⟩ hs
    | _ => cases hz
  | str x =>
    cases he with
    | int i =>
      simp only [dIx] at hz
      split at hz
      · cases e : atI x.cps.toList i with
        | none => rw [e] at hz; cases hz
        | some c =>
          rw [e] at hz
          cases hz
          exact ix_str value slice pins s σ H _ _ v u Q I rx ry ⟨x, i, c, rfl, rfl, by omega, e, fin_same sb (.str _) q⟩ hs
      · cases hz
    | _ => cases hz
  | _ => cases he <;> cases hz
theorem cut_dp {K : PySem.W.Frag} {B : Hp} {vs : List V} {ds : List D} (r : DpAll K B vs ds) (lo hi : Option Int) : DpAll K B (cutV vs lo hi) (cutD ds lo hi) := by
  unfold cutV cutD
  rw [r.length]
  exact (r.drop _).take _
theorem cut_whole {vs : List V} {lo hi : Option Int} (h : HT.sIx vs.length 0 lo = 0 ∧ HT.sIx vs.length vs.length hi = vs.length) : cutV vs lo hi = vs := by
  unfold cutV
  rw [h.1, h.2, List.drop_zero, Nat.sub_zero, List.take_length]
/-- a slice -/
def rSlD (K : PySem.W.Frag) : V → Option Int → Option Int → Hp → VK → Prop := fun x lo hi H Q => ∃ B d z, Same B H ∧ Dp K B x d ∧ dSl d lo hi = some z ∧ ∀ v B' H', Ext B H B' H' → Dp K B' v z → Q v H'
theorem sl_dat : SlR X (rSlD X.K) := by
  intro pins s σ H x v vl vu lo hi sl Q I rx hs pl pu h
  obtain ⟨B, d, z, sb, hd, hz, q⟩ := h
  have ll := lim_line
  cases hd with
  | lst h1 r1 =>
    cases hz
    exact sl_list pins s σ H _ v vl vu lo hi sl Q I rx hs pl pu ⟨_, _, rfl, sb.seq h1, fin_lst sb (cut_dp r1 lo hi) q⟩
  | tup h1 r1 =>
    cases hz
    refine sl_tupA pins s σ H _ v vl vu lo hi sl Q I rx hs pl pu ⟨_, _, rfl, sb.seqT h1, fun w => ?_, fun _ => fin_tup sb (cut_dp r1 lo hi) q⟩
    have r2 := cut_dp r1 lo hi
    rw [cut_whole w] at r2
    exact fin_same sb (.tup h1 r2) q
  | str y =>
    simp only [dSl] at hz
    split at hz
    · cases hz
      exact sl_str pins s σ H _ v vl vu lo hi sl Q I rx hs pl pu ⟨y, rfl, by omega, fin_same sb (.str _) q⟩
    · cases hz
  | _ => cases hz
end
end CH

/-! CH Y1: try with several clauses, some of which name the exception. -/
namespace CH
open PySem PySem.Spec PyProof.Rows L2

/-- the ends behind a clause whose name (slot i) goes -/
def offE (E : Ends) : Option Nat → Ends
  | none => E
  | some i => { nx := fun τ J => E.nx (τ.set i none) J, rt := E.rt, bk := fun τ J => E.bk (τ.set i none) J, ct := fun τ J => E.ct (τ.set i none) J }
def onE (σ : L2.St) (a : Addr) : Option Nat → L2.St
  | none => σ
  | some i => σ.set i (some (.ref a))
/-- a clause: what it names, the slot of its name, its suite's reading -/
structure Cl where
  c : Value
  n : Option Nat
  ts : Addr → Value → Option Addr → TS
def wC (K : PySem.W.Frag) (Wo : WX) (E : Ends) : List Cl → WX
  | [] => Wo
  | q :: r => fun cls d σ H => ∃ b, PySem.W.exmOne K cls q.c = some b ∧ (b = true → ∀ a, H a = none → q.ts a cls d (offE E q.n) (onE σ a q.n) H) ∧ (b = false → wC K Wo E r cls d σ H)
/-- a clause's name, if it has one, has a slot of its own -/
def NmOk (X : Cx) : Option Str → Option Nat → Prop
  | none, none => True
  | some n, some i => X.N[i]? = some n ∧ X.env.kindOf n = some .local
  | _, _ => False
inductive ClsOk (X : Cx) : List ExceptHandler → List Cl → Prop
  | nil : ClsOk X [] []
  | cons {x : Str} {n : Option Str} {q : Cl} {st : Stmt} {su : List Stmt} {np p : Pos} {hs : List ExceptHandler} {r : List Cl} (hc : Names X x q.c) (hn : NmOk X n q.n)
      (hsu : ∀ (a : Addr) (oe : Obj) (cls : Value) (d : Option Addr) (pn : List (Addr × Obj)), Zc cls d oe → (∃ vs, oe.data = .fields vs) → PSs (X.suite a ((a, oe) :: pn)) (st :: su) (q.ts a cls d))
      (hr : ClsOk X hs r) : ClsOk X (.ExceptHandler (some (.Name x np)) n (st :: su) p :: hs) (q :: r)

section
variable {X : Cx} {pins : List (Addr × Obj)}
/-- behind a suite -/
theorem end_plain {a : Addr} {q : Addr × Obj} {E : Ends} {f : Flow} {t : Shared} (ok : X.Ok) (h : SP (X.suite a (q :: (X.pn ++ pins))) [] E f t) : SP X pins E f t := by
  cases f with
  | ret u => obtain ⟨v, τ, J, I, r, z⟩ := h; exact ⟨v, τ, J, I.unsuite ok, r, z⟩
  | next => obtain ⟨τ, J, I, z⟩ := h; exact ⟨τ, J, I.unsuite ok, z⟩
  | brk => obtain ⟨τ, J, I, z⟩ := h; exact ⟨τ, J, I.unsuite ok, z⟩
  | cont => obtain ⟨τ, J, I, z⟩ := h; exact ⟨τ, J, I.unsuite ok, z⟩
theorem end_try {E : Ends} {f : Flow} {t : Shared} {xe : Value → Shared → Prop} (ok : X.Ok) (h : SP (X.tr (X.pn ++ pins) xe) [] E f t) : SP X pins E f t := by
  cases f with
  | ret u => obtain ⟨v, τ, J, I, r, z⟩ := h; exact ⟨v, τ, J, I.ofTry ok, r, z⟩
  | next => obtain ⟨τ, J, I, z⟩ := h; exact ⟨τ, J, I.ofTry ok, z⟩
  | brk => obtain ⟨τ, J, I, z⟩ := h; exact ⟨τ, J, I.ofTry ok, z⟩
  | cont => obtain ⟨τ, J, I, z⟩ := h; exact ⟨τ, J, I.ofTry ok, z⟩
theorem end_named {a : Addr} {q : Addr × Obj} {E : Ends} {f : Flow} {t : Shared} {i : Nat} {n : Str} {p : Pos} (ok : X.Ok) (nd : X.N.Nodup) (hi : X.N[i]? = some n) (hk : X.env.kindOf n = some .local)
    (h : SP (X.suite a (q :: (X.pn ++ pins))) [] (offE E (some i)) f t) : wpAny (model X.prog X.w) X.A (do bindName X.env n .none; unbindBehindTheSuite X.env n p) (fun _ t' => SP X pins E f t') X.xe t := by
  cases f with
  | ret u => obtain ⟨v, τ, J, I, r, z⟩ := h; exact gone_ok (I.unsuite ok) nd hi hk fun t' I' => ⟨v, _, J, I', r, z⟩
  | next => obtain ⟨τ, J, I, z⟩ := h; exact gone_ok (I.unsuite ok) nd hi hk fun t' I' => ⟨_, J, I', z⟩
  | brk => obtain ⟨τ, J, I, z⟩ := h; exact gone_ok (I.unsuite ok) nd hi hk fun t' I' => ⟨_, J, I', z⟩
  | cont => obtain ⟨τ, J, I, z⟩ := h; exact gone_ok (I.unsuite ok) nd hi hk fun t' I' => ⟨_, J, I', z⟩
end
section
variable {X : Cx} {body : List Stmt} {h0 : ExceptHandler} {hs : List ExceptHandler} {l : List Cl} {pos : Pos} {tb : WX → TS} {Wo : WX}
theorem ps_tryC (sk : X.stack = X.env :: X.outer) (fr : X.env.frame = some X.env.locals) (nd : X.N.Nodup) (tk : Takes X Wo)
    (hb : ∀ (W : WX) (pn : List (Addr × Obj)) (xe : Value → Shared → Prop), Takes (X.tr pn xe) W → PassesOwn (model X.prog X.w) X.A X.env xe → PSs (X.tr pn xe) body (tb W))
    (hh : ClsOk X (h0 :: hs) l) : PS X (.Try body (h0 :: hs) [] [] pos) (fun E σ H => tb (wC X.K Wo E l) E σ H) := by
  refine ⟨fun pins s σ H E I w => ?_⟩
  have ok := I.ok
  have frm : X.A.frames = some (X.env :: X.outer) := ok.frames.trans (by rw [sk])
  let xe : Value → Shared → Prop := fun e t => wpAny (model X.prog X.w) X.A (noteFrame e X.env) (fun _ t2 => wpAny (model X.prog X.w) X.A (setFlight e none) (fun _ t3 => wpAny (model X.prog X.w) X.A (handleBy e X.env (h0 :: hs)) (SP X pins E) X.xe t3) X.xe t2) X.xe t
  have tkb : Takes (X.tr (X.pn ++ pins) xe) (wC X.K Wo E l) := by
    rintro u t ⟨a, B, tI, pn2, τ, J, cls, d, rfl, I2, nb, up, sky, na, os, ag, wh⟩
    have IA : Inv X pins τ J tI := I2.ofTry ok
    have sky2 : Sky B (X.env :: X.outer) a (Zc cls d) X.env.locals t.heap := sk ▸ sky
    show wpAny _ X.A (noteFrame (.ref a) X.env) _ _ _
    refine Sky.land Zc.steady frm fr sky2 fun g fl ug => ?_
    have IB : Inv X pins τ J { t with heap := g } := IA.landed nb fl.1 (up.trans ug) os ag
    obtain ⟨oe, vs, he, hz, hd⟩ := fl.there
    have nst : a ∉ frs (X.env :: X.outer) := fun hm => by
      obtain ⟨_, o2, e2, q2⟩ := fl.2.2.1.mem hm
      exact q2 _ ((Option.some.inj (e2.symm.trans he)).symm ▸ hd)
    have nL : a ≠ X.env.locals := fun z => nst (List.mem_filterMap.mpr ⟨X.env, List.mem_cons_self, by rw [fr, z]⟩)
    have nF : a ∉ X.fs := fun hm => by
      obtain ⟨e, h1, h2⟩ := List.mem_filterMap.mp hm
      exact nst (List.mem_filterMap.mpr ⟨e, .tail _ h1, h2⟩)
    have IS := IB.suite he hd na nL nF
    have LT : PySem.W.Looks (model X.prog X.w) g (typeOf (.ref a)) cls := fun _ _ _ t kp z => wpAny_typeOf_ref (kp _ _ he) (hz.1.symm ▸ z)
    have go : ∀ {ks : List ExceptHandler} {m : List Cl}, ClsOk X ks m → wC X.K Wo E m cls d τ J → wpAny (model X.prog X.w) X.A (handleBy (.ref a) X.env ks) (SP X pins E) X.xe { t with heap := g } := by
      intro ks m hk
      induction hk with
      | nil =>
        intro wz
        refine wpAny_handleBy_nil ?_
        obtain ⟨_, _, _, o3, v3, T, oT, t3, he3, hz3, hd3, h13, hr3⟩ := id fl
        unfold PySem.passOn
        refine wpAny_bind (wpAny_field he3 hd3 h13 ?_)
        rw [if_neg (by simp : ¬ ((Value.ref T == Value.none) = true))]
        have fin : wpAny (model X.prog X.w) X.A (setFlight (.ref a) X.env.frame) (fun _ t4 => wpAny (model X.prog X.w) X.A (throw (.ref a) : Sem Flow) (SP X pins E) X.xe t4) X.xe { t with heap := g } :=
          fr ▸ HandSPX.setFlight_upZ fl fun g4 h4 u4 => wpAny_throw (tk _ _ ⟨a, B, tI, pins, τ, J, cls, d, rfl, IA, nb, (up.trans ug).trans u4, .inr (.inr (sk.symm ▸ h4)), na, os, ag, wz⟩)
        first | exact wpAny_bind fin | exact wpAny_bind (wpAny_pure (wpAny_bind fin))
      | @cons x n q st su np p ks2 m2 hc hn hsu hr ih =>
        rintro ⟨b, em, yes, no⟩
        have LM := PySem.W.exm_one (M := model X.prog X.w) IB.kIn LT em
        have nameOk : ∀ {Q E2 : Value → Shared → Prop}, Q q.c { t with heap := g } → wpAny (model X.prog X.w) (X.A.mark (some (.ref a))) (eval (.Name x np) X.env) Q E2 { t with heap := g } := fun {Q E2} z => by
          rcases hc with ⟨c1, c2, c3 | ⟨c3, c4, c5⟩⟩
          · exact ld_glob (X := X.suite a ((a, oe) :: (X.pn ++ pins))) IS c1 c3 z c2
          · exact ld_blt (X := X.suite a ((a, oe) :: (X.pn ++ pins))) IS c1 c3 c4 z c5 c2
        refine wpAny_handleBy_cons (codeAny_handlers_test ?_) (by intro z; cases z)
        refine nameOk (LM.here ?_)
        cases b with
        | false =>
          show wpAny _ X.A (handleBy (.ref a) X.env ks2) _ _ _
          exact ih (no rfl)
        | true =>
          have suite : ∀ {g4 : Heap}, HandSPX.FlyingZ B (X.env :: X.outer) a (Zc cls d) g4 → g.UpToSlots g4 → ∃ o4, (∃ vs, o4.data = .fields vs) ∧ Zc cls d o4 ∧ Inv (X.suite a ((a, o4) :: (X.pn ++ pins))) [] τ J { t with heap := g4 } := fun {g4} f4 u4 => by
            obtain ⟨o4, v4, e4, z4, d4⟩ := f4.there
            have I4 : Inv X pins τ J { t with heap := g4 } := IA.landed nb f4.1 ((up.trans ug).trans u4) os ag
            exact ⟨o4, ⟨v4, d4⟩, z4, I4.suite e4 d4 na nL nF⟩
          match n, q, hn, hsu, yes with
          | none, ⟨qc, none, qt⟩, _, hsu, yes =>
            refine codeAny_handlers_suite (HandSPX.lands_againZ fl fun g4 f4 u4 => ?_)
            obtain ⟨o4, d4, z4, I4⟩ := suite f4 u4
            exact wpAny_mono ((hsu a o4 cls d (X.pn ++ pins) z4 d4).run [] _ _ J _ I4 (yes rfl a na)) (fun f t6 hp => end_plain ok hp) fun _ _ z => z.elim
          | some n, ⟨qc, some i, qt⟩, hn, hsu, yes =>
            refine codeAny_handlers_suite_as (HandSPX.lands_againZ fl fun g4 f4 u4 => ?_)
            obtain ⟨o4, d4, z4, I4⟩ := suite f4 u4
            refine store_ok (X := X.suite a ((a, o4) :: (X.pn ++ pins))) (v := .ref a) I4 nd hn.1 (.inl hn.2) rfl (fun t5 I5 => ?_) (.inr hn.2)
            exact wpAny_mono ((hsu a o4 cls d (X.pn ++ pins) z4 d4).run [] t5 _ J _ I5 (yes rfl a na)) (fun f t6 hp => end_named ok nd hn.1 hn.2 hp) fun _ _ z => z.elim
    exact go hh wh
  exact wpAny_Try_except (wpAny_mono ((hb (wC X.K Wo E l) (X.pn ++ pins) xe tkb PassesOwn.looking).run [] s σ H E (I.toTry _) w) (fun f t hp => by
    have z := end_try ok hp
    cases f with
    | next =>
      obtain ⟨τ, J, I2, q⟩ := z
      exact wpAny_execs_nil ⟨τ, J, I2, q⟩
    | ret u => exact z
    | brk => exact z
    | cont => exact z) fun e t he => he)
end
end CH

/-! CH Y2: isinstance of a caught exception, with a dict or without. -/
namespace CH
open PySem PySem.Spec PySem.Calls PyProof.Rows L2 PySem.W
section
variable {prog : Program} {w : World} {A : Around} {E : Value → Shared → Prop} {s : Shared} {K : Frag} {x C : Addr} {ox : Obj} {od : Option Obj}
theorem class_of {Q : Option Value → Shared → Prop} (T : ExcC K C) (X : K.In s.heap) (I : InstAt s.heap x ox C od) (h : Q (some (.ref C)) { s with toks := s.toks + 1 }) : wpAny (model prog w) A (getAttr? (.ref x) "__class__") Q E s := by
  have hc : (clsIn K C).isSome = true := by
    obtain ⟨cd, hc, _⟩ := any_some T.hd
    rw [hc]; rfl
  have hf : findObj K C od "__class__" = some (.bind (.builtin "getset_descriptor.__get__") (.builtin "object.__class__")) := by
    cases od with
    | none => exact findObj_dataN hc T.ha T.hn T.ht
    | some o => exact findObj_data hc T.ha T.hn T.ht
  obtain ⟨hp, g, d, t, os⟩ := s
  have ty := I.type (M := model prog w)
  have l1 := looks_findIn (M := model prog w) X T.hg
  have l2 := looks_findIn (M := model prog w) X T.hk
  have l3 := looks_find (M := model prog w) X I hf
  have up : Looks (model prog w) hp (isInstance (.ref x) (.type "BaseException")) true := ty.andThen (looks_subIn X T.hs)
  have n0 : (Value.builtin "BaseException.__getattribute__" == Value.builtin "object.__getattribute__") = false := by decide +kernel
  have n1 : (onTheHeap (Value.ref C) && Value.builtin "BaseException.__getattribute__" == Value.builtin "object.__getattribute__") = false := by rw [n0, Bool.and_false]
  have n2 : (false && onTheHeap (Value.builtin "BaseException.__getattribute__")) = false := Bool.false_and _
  unfold getAttr? getAttrBy? getAttrBy
  refine wpAny_bind (wpAny_mkText (wpAny_bind (wpAny_attempt (wpAny_holding (wpAny_bind (ty.at (wpAny_bind (l1.at ?_))))))))
  show wpAny _ _ (if (onTheHeap (Value.ref C) && Value.builtin "BaseException.__getattribute__" == Value.builtin "object.__getattribute__") = true then _ else _) _ _ _
  rw [if_neg (by rw [n1]; exact Bool.false_ne_true)]
  unfold getAttrByItsOwn hookBefore
  refine wpAny_bind ?_
  rw [show onTheHeap (Value.ref C) = true from rfl, if_pos rfl]
  refine l2.at (wpAny_bind (wpAny_attempt (wpAny_holding ?_)))
  unfold callGetattribute
  rw [if_neg (by rw [n2]; exact Bool.false_ne_true)]
  unfold boundAndCalled
  rw [PySem.F.excAttr_ValueError.ga.bind (.ref x)]
  refine wpAny_bind (wpAny_pure ?_)
  show wpAny _ _ (call (.builtin "BaseException.__getattribute__") [.ref x, .str "__class__" t]) _ _ _
  refine wpAny_call (codeAny_call_builtin PySem.F.excAttr_ValueError.ga.plain PySem.F.entry_bexc_ga ?_)
  refine @check_slot (model prog w) _ _ ⟨hp, g, d, t + 1, os⟩ "BaseException.__getattribute__" "BaseException" "__getattribute__" (.ref x) [.str "__class__" t] [] _ (by decide +kernel) (by decide +kernel) up (PySem.F.args_bexc_ga (.ref x) (.str "__class__" t)) ?_
  unfold Builtin.«object.__getattribute__»
  refine wpAny_bind (wpAny_of_eq (a := ((Value.ref x : Value), [Value.str "__class__" t])) (by first | rfl | (simp only [slotArgs]; rfl)) ?_)
  refine wpAny_bind (wpAny_pure (wpAny_bind (ty.at (wpAny_bind (l3.at ?_)))))
  show wpAny _ _ (holding [Value.builtin "object.__class__"] (call (.builtin "getset_descriptor.__get__") [.builtin "object.__class__", .ref x, .ref C]) >>= ret) _ _ _
  refine wpAny_bind (wpAny_holding (wpAny_call (class_get (s := ⟨hp, g, d, t + 1, os⟩) (ox := ox) (od := od) X I T.hm ?_)))
  refine wpAny_pure ?_
  show wpAny _ _ (handedOut (.ref C)) _ _ _
  rw [handedOut_of (rfl : handedIn (.ref C) = true)]
  first
    | exact wpAny_pure h
    | exact wpAny_pure (wpAny_pure h)
    | exact wpAny_pure (wpAny_bind (wpAny_pure (wpAny_pure h)))
theorem kit_any (T : ExcC K C) : KitX K (.ref x) (.ref C) (fun h => ∃ od, InstAt h x ox C od) := by
  have hcls : ∃ o cd, K.lookup C = some o ∧ o.data = .cls cd := by
    obtain ⟨cd, hc, _⟩ := any_some T.hd
    unfold clsIn at hc
    split at hc
    · rename_i _ _ cd' _ ho
      exact ⟨_, _, ho, rfl⟩
    · cases hc
  refine ⟨fun _ _ _ ⟨_, I⟩ => I.type, fun M h X _ => ?_, fun h tp dd its n sl X ht => ?_, fun X ⟨_, I⟩ k => class_of T X I k⟩
  · obtain ⟨o, cd, ho, hd⟩ := hcls
    intro A2 Q2 E2 s2 kp q
    unfold isType loadHead
    exact wpAny_bind (wpAny_loadPart (kp _ _ (X _ _ ho)) (wpAny_pure (by rw [hd]; exact q)))
  · obtain ⟨o, cd, ho, hd⟩ := hcls
    refine Bool.eq_false_iff.mpr fun q => ?_
    have e : C = tp := Value.ref.inj (beq_iff_eq.mp q)
    rw [← e, X _ _ ho] at ht
    cases ht
    cases hd
end
end CH

/-! CH 4: the small language: expressions, what they come to, how they are written. -/
namespace CH
open PySem PySem.Spec PyProof.Rows L2

/-- built-ins of one argument -/
inductive Bi where
  | len | list | tuple | sorted | str | max
/-- types that isinstance is asked of -/
inductive Ty where
  | str | tuple | int | bool | list

inductive Tg where
  | one (i : Nat) (x : Str) (p : Pos)
  | two (i : Nat) (x : Str) (p : Pos) (j : Nat) (y : Str) (q : Pos) (k : Nat) (r : Pos)
  | three (i : Nat) (x : Str) (p : Pos) (j : Nat) (y : Str) (q : Pos) (l : Nat) (z : Str) (s : Pos) (k : Nat) (r : Pos)

mutual
inductive E where
  | var (i : Nat) (x : Str) (p : Pos)
  | glob (g : Nat) (x : Str) (p : Pos)
  | cst (c : Const) (k : Nat) (p : Pos)
  | tup (es : Es) (k : Nat) (p : Pos)
  | lst (es : Es) (p : Pos)
  | bin (op : Operator) (a b : E) (p : Pos)
  | neg (a : E) (p : Pos)
  | not (a : E) (p : Pos)
  | bop (o : BoolOp) (es : Es) (p : Pos)
  | cmp (op : CmpOp) (a b : E) (p : Pos)
  | chn (o1 o2 : CmpOp) (a b c : E) (p : Pos)
  | ife (t a b : E) (p : Pos)
  | ix (a i : E) (p : Pos)
  | sl (a : E) (lo hi : Oe) (p q : Pos)
  | rev (a : E) (p q r s : Pos)
  | call (f : Nat) (x : Str) (es : Es) (p q : Pos)
  | bi (b : Bi) (a : E) (p q : Pos)
  | isi (t : Ty) (a : E) (p q r : Pos)
  | srev (a : E) (p q k r : Pos)
  | sset (a : E) (p q r s : Pos)
  | join (s a : E) (p q : Pos)
  | leno (i : Nat) (x : Str) (p q r : Pos)
  | comp (elt : E) (tg : Tg) (it : It) (ifs : Es) (sc : Scope) (own : List (Str × Nat)) (p : Pos)
  | exis (i : Nat) (x : Str) (c : Nat) (y : Str) (p q r s : Pos)
  | exat (i : Nat) (x : Str) (f : Str) (p q : Pos)
  | callk (f : Nat) (x : Str) (es : Es) (kw : Str) (e : E) (p q r : Pos)
  | ixo (i : Nat) (x : Str) (p : Pos) (e : E) (q : Pos)
  | max2 (a b : E) (p q : Pos)
  | lset (a : E) (p q r s : Pos)
inductive Es where
  | nil
  | cons (a : E) (r : Es)
inductive Oe where
  | no
  | so (a : E)
inductive It where
  | seq (a : E)
  | rng (es : Es) (p q : Pos)
  | enum (a : E) (p q : Pos)
  | zip (a b : E) (p q : Pos)
  | revd (a : E) (p q : Pos)
end

/-! ### how they are written -/
def Bi.nm : Bi → Str
  | .len => "len"
  | .list => "list"
  | .tuple => "tuple"
  | .sorted => "sorted"
  | .str => "str"
  | .max => "max"
def Ty.nm : Ty → Str
  | .str => "str"
  | .tuple => "tuple"
  | .int => "int"
  | .bool => "bool"
  | .list => "list"
def Tg.py : Tg → Expr
  | .one _ x p => .Name x p
  | .two _ x p _ y q k r => .Tuple [.Name x p, .Name y q] k r
  | .three _ x p _ y q _ z s k r => .Tuple [.Name x p, .Name y q, .Name z s] k r
mutual
def E.py : E → Expr
  | .var _ x p => .Name x p
  | .glob _ x p => .Name x p
  | .cst c k p => .Constant c k p
  | .tup es k p => .Tuple es.py k p
  | .lst es p => .List es.py p
  | .bin op a b p => .BinOp a.py op b.py p
  | .neg a p => .UnaryOp .USub a.py p
  | .not a p => .UnaryOp .Not a.py p
  | .bop o es p => .BoolOp o es.py p
  | .cmp op a b p => .Compare a.py [op] [b.py] p
  | .chn o1 o2 a b c p => .Compare a.py [o1, o2] [b.py, c.py] p
  | .ife t a b p => .IfExp t.py a.py b.py p
  | .ix a i p => .Subscript a.py i.py p
  | .sl a lo hi p q => .Subscript a.py (.Slice lo.py hi.py none q) p
  | .rev a p q r s => .Subscript a.py (.Slice none none (some (.UnaryOp .USub (.Constant (.int 1) 0 s) r)) q) p
  | .call _ x es p q => .Call (.Name x p) es.py [] q
  | .bi b a p q => .Call (.Name b.nm p) [a.py] [] q
  | .isi t a p q r => .Call (.Name "isinstance" p) [a.py, .Name t.nm q] [] r
  | .srev a p q k r => .Call (.Name "sorted" p) [a.py] [⟨some "reverse", .Constant (.bool true) 0 q, k⟩] r
  | .sset a p q r s => .Call (.Name "sorted" p) [.Call (.Name "set" q) [a.py] [] r] [] s
  | .join s a p q => .Call (.Attribute s.py "join" p) [a.py] [] q
  | .leno _ x p q r => .Call (.Name "len" p) [.Name x q] [] r
  | .comp elt tg it ifs sc _ p => .ListComp elt.py [⟨tg.py, it.py, ifs.py, 0⟩] sc p
  | .exis _ x _ y p q r s => .Call (.Name "isinstance" p) [.Name x q, .Name y r] [] s
  | .exat _ x f p q => .Attribute (.Name x p) f q
  | .callk _ x es kw e p q r => .Call (.Name x p) es.py [⟨some kw, e.py, r⟩] q
  | .ixo _ x p e q => .Subscript (.Name x p) e.py q
  | .max2 a b p q => .Call (.Name "max" p) [a.py, b.py] [] q
  | .lset a p q r s => .Call (.Name "len" p) [.Call (.Name "set" q) [a.py] [] r] [] s
def Es.py : Es → List Expr
  | .nil => []
  | .cons a r => a.py :: r.py
def Oe.py : Oe → Option Expr
  | .no => none
  | .so a => some a.py
def It.py : It → Expr
  | .seq a => a.py
  | .rng es p q => .Call (.Name "range" p) es.py [] q
  | .enum a p q => .Call (.Name "enumerate" p) [a.py] [] q
  | .zip a b p q => .Call (.Name "zip" p) [a.py, b.py] [] q
  | .revd a p q => .Call (.Name "reversed" p) [a.py] [] q
end

/-! ### what they come to -/
def R.of {α : Type} : Option α → R α
  | some a => .ok a
  | none => .stuck
/-- exceptions are not told of -/
def R.nx {α : Type} : R α → R α
  | .ok a => .ok a
  | _ => .stuck
def cstD : Const → Option D
  | .none => some .none
  | .bool b => some (.bool b)
  | .int i => some (.int i)
  | .str s => some (.str s)
  | _ => none

/-- stable -/
def sortD (ds : List D) : List D := ds.mergeSort (PySem.W.dataLe false id)
def sortR (ds : List D) : List D := ds.mergeSort (PySem.W.dataLe true id)
def maxI : List Int → Int
  | [] => 0
  | i :: r => r.foldl max i
def intsOf : List D → Option (List Int)
  | [] => some []
  | .int i :: r => (intsOf r).map fun l => i :: l
  | _ :: _ => none
def dMax2 : D → D → Option D
  | .int i, .int j => some (.int (max i j))
  | _, _ => none
def isStr : D → Bool
  | .str _ => true
  | _ => false
def isInt : D → Bool
  | .int _ => true
  | _ => false
def isInts : D → Bool
  | .tuple xs => xs.all isInt
  | _ => false
def sortable (ds : List D) : Bool := ds.all isStr || ds.all isInts || ds.all isInt
def dedup : List D → List D
  | [] => []
  | d :: r => if r.any (fun e => PyData.eqv e d) = true then dedup r else d :: dedup r
def strsOf : List D → Option (List Str)
  | [] => some []
  | .str s :: r => (strsOf r).map fun l => s :: l
  | _ :: _ => none
def biS : Bi → D → Option D
  | .len, .list xs => some (.int xs.length)
  | .len, .tuple xs => some (.int xs.length)
  | .len, .str s => if s.length ≤ lim then some (.int s.length) else none
  | .list, .list xs => some (.list xs)
  | .list, .tuple xs => some (.list xs)
  | .tuple, .list xs => some (.tuple xs)
  | .tuple, .tuple xs => some (.tuple xs)
  | .sorted, .list xs => if sortable xs = true ∧ xs.length ≤ lim then some (.list (sortD xs)) else none
  | .max, .list xs => match xs, intsOf xs with
    | _ :: _, some is => some (.int (maxI is))
    | _, _ => none
  | .str, .str s => some (.str s)
  | _, _ => none
def tyS : Ty → D → Bool
  | .str, .str _ => true
  | .tuple, .tuple _ => true
  | .int, .int _ => true
  | .int, .bool _ => true
  | .bool, .bool _ => true
  | .list, .list _ => true
  | _, _ => false
def sRev : D → Option D
  | .list xs => if sortable xs = true ∧ xs.length ≤ lim then some (.list (sortR xs)) else none
  | _ => none
def sSet : D → Option D
  | .list xs => if xs.all isStr = true ∧ xs.length ≤ 4000 then some (.list (sortD (dedup xs))) else none
  | _ => none
def lSet : D → Option D
  | .list xs => if xs.all isStr = true ∧ xs.length ≤ 4000 then some (.int (dedup xs).length) else none
  | _ => none
def dRev : D → Option D
  | .list xs => some (.list xs.reverse)
  | _ => none
def joinS : D → D → Option D
  | .str a, .list ys => match strsOf ys with
    | some zs => if (zs.map (·.length)).sum + a.length * zs.length ≤ lim then some (.str (Txt.join a zs)) else none
    | none => none
  | _, _ => none
def rngD (lo hi : Int) : List D := (List.range (hi - lo).toNat).map fun (i : Nat) => PyData.int (lo + (i : Int))
/-- small enough for a range -/
def rsm (j : Int) : Bool := smI 1000000 j
def rngS : List D → Option (List D)
  | [.int j] => if rsm j = true then some (rngD 0 j) else none
  | [.int i, .int j] => if (rsm i && rsm j) = true then some (rngD i j) else none
  | [.int i, .int j, .int c] => if (rsm i && rsm j && decide (c = -1)) = true then some ((List.range (i - j).toNat).map fun (k : Nat) => PyData.int (i - (k : Int))) else none
  | _ => none
def itemsS : D → Option (List D)
  | .list xs => some xs
  | .tuple xs => some xs
  | .str s => if s.length ≤ lim then some (s.cps.toList.map fun c => .str ⟨#[c]⟩) else none
  | _ => none
def enumFrom : Nat → List D → List D
  | _, [] => []
  | n, d :: r => .tuple [.int n, d] :: enumFrom (n + 1) r
def enumS : D → Option (List D)
  | .list xs => some (enumFrom 0 xs)
  | _ => none
def zipD : List D → List D → List D
  | a :: r, b :: s => .tuple [a, b] :: zipD r s
  | _, _ => []
def zipS : D → D → Option (List D)
  | .list xs, .list ys => some (zipD xs ys)
  | _, _ => none
def revS : D → Option (List D)
  | .list xs => some xs.reverse
  | .tuple xs => some xs.reverse
  | _ => none
def dInt : D → Option Int
  | .int i => some i
  | _ => none
def dBool : D → Option Bool
  | .bool b => some b
  | _ => none

/-- exception classes: name, the field's name, the numbers of the classes that it is under (itself too) -/
structure XInfo where
  name : Str
  field : Option Str
  up : List Nat
/-- functions: name, parameters, the last ones' defaults -/
structure FInfo where
  name : Str
  np : Nat
  dfl : List D
  kw : Str
structure Info where
  globs : List (Str × D)
  fns : List FInfo
  exs : List XInfo
def FInfo.fill (f : FInfo) (n : Nat) : List D := f.dfl.drop (f.dfl.length - (f.np - n))

def setS (ρ : List Sl) (i : Nat) (d : D) : List Sl := ρ.set i (.dat d)
def Tg.set : Tg → D → List Sl → Option (List Sl)
  | .one i _ _, d, ρ => some (setS ρ i d)
  | .two i _ _ j _ _ _ _, .tuple [a, b], ρ => some (setS (setS ρ i a) j b)
  | .two .., _, _ => none
  | .three i _ _ j _ _ l _ _ _ _, .tuple [a, b, c], ρ => some (setS (setS (setS ρ i a) j b) l c)
  | .three .., _, _ => none
def wipeS (ρ : List Sl) : List Nat → List Sl
  | [] => ρ
  | v :: vs => (wipeS ρ vs).set v .no
def compL (bd : D → Option (List Sl)) (test : M Bool) (elt : M D) : List D → R (List D)
  | [] => .ok []
  | d :: ds => (R.of (bd d)).bind fun ρ => (test ρ).bind fun b =>
    if b = true then (elt ρ).bind fun y => (compL bd test elt ds).bind fun ys => .ok (y :: ys) else compL bd test elt ds

/-- a piece as a value, as a test -/
structure P where
  v : M D
  t : M Bool
def mkV (m : M D) : P := ⟨m, fun ρ => (m ρ).bind fun d => R.of (dTru d)⟩
/-- several pieces: in a row; joined by and, by or, as a value, as a test; all hold -/
structure Ps where
  l : M (List D)
  andV : M D
  orV : M D
  andT : M Bool
  orT : M Bool
  allT : M Bool

abbrev FT := Nat → List D → R D
mutual
@[simp] def ev (I : Info) (F : FT) : E → P
  | .var i _ _ => mkV fun ρ => match ρ[i]? with
    | some (.dat d) => .ok d
    | _ => .stuck
  | .glob g _ _ => mkV fun _ => R.of ((I.globs[g]?).map (·.2))
  | .cst c _ _ => mkV fun _ => R.of (cstD c)
  | .tup es _ _ => mkV fun ρ => ((evs I F es).l ρ).bind fun ds => .ok (.tuple ds)
  | .lst es _ => mkV fun ρ => ((evs I F es).l ρ).bind fun ds => .ok (.list ds)
  | .bin op a b _ => mkV fun ρ => ((ev I F a).v ρ).bind fun d => ((ev I F b).v ρ).bind fun e => R.of (dBin op d e)
  | .neg a _ => mkV fun ρ => ((ev I F a).v ρ).bind fun d => R.of (dNeg d)
  | .not a _ => ⟨fun ρ => ((ev I F a).v ρ).bind fun d => (R.of (dTru d)).bind fun b => .ok (.bool (!b)), fun ρ => ((ev I F a).t ρ).bind fun b => .ok (!b)⟩
  | .bop .And es _ => ⟨(evs I F es).andV, (evs I F es).andT⟩
  | .bop .Or es _ => ⟨(evs I F es).orV, (evs I F es).orT⟩
  | .cmp op a b _ => mkV fun ρ => ((ev I F a).v ρ).bind fun d => ((ev I F b).v ρ).bind fun e => R.of (dCmp op d e)
  | .chn o1 o2 a b c _ => mkV fun ρ => ((ev I F a).v ρ).bind fun d => ((ev I F b).v ρ).bind fun e => (R.of (dCmp o1 d e)).bind fun z => (R.of (dBool z)).bind fun k =>
      if k = true then ((ev I F c).v ρ).bind fun f => R.of (dCmp o2 e f) else .ok (.bool false)
  | .ife t a b _ => ⟨fun ρ => ((ev I F t).t ρ).bind fun k => if k = true then (ev I F a).v ρ else (ev I F b).v ρ, fun _ => .stuck⟩
  | .ix a i _ => mkV fun ρ => ((ev I F a).v ρ).bind fun d => ((ev I F i).v ρ).bind fun e => R.of (dIx d e)
  | .sl a lo hi _ _ => mkV fun ρ => ((ev I F a).v ρ).bind fun d => (evo I F lo ρ).bind fun l => (evo I F hi ρ).bind fun h => R.of (dSl d l h)
  | .rev a _ _ _ _ => mkV fun ρ => ((ev I F a).v ρ).bind fun d => R.of (dRev d)
  | .call f _ es _ _ => mkV fun ρ => ((evs I F es).l ρ).bind fun ds => match I.fns[f]? with
    | some fi => F f (ds ++ fi.fill ds.length)
    | none => .stuck
  | .bi b a _ _ => mkV fun ρ => ((ev I F a).v ρ).bind fun d => R.of (biS b d)
  | .isi t a _ _ _ => mkV fun ρ => ((ev I F a).v ρ).bind fun d => .ok (.bool (tyS t d))
  | .srev a _ _ _ _ => mkV fun ρ => ((ev I F a).v ρ).bind fun d => R.of (sRev d)
  | .sset a _ _ _ _ => mkV fun ρ => ((ev I F a).v ρ).bind fun d => R.of (sSet d)
  | .join s a _ _ => mkV fun ρ => ((ev I F s).v ρ).bind fun d => ((ev I F a).v ρ).bind fun e => R.of (joinS d e)
  | .leno i _ _ _ _ => mkV fun ρ => match ρ[i]? with
    | some (.own ds) => .ok (.int ds.length)
    | _ => .stuck
  | .comp elt tg it ifs _ own _ => mkV fun ρ => (evi I F it ρ).bind fun ds =>
      (compL (fun d => tg.set d (wipeS ρ (own.map (·.2)))) (fun ρ => ((evs I F ifs).allT ρ).nx) (fun ρ => ((ev I F elt).v ρ).nx) ds).bind fun ys => .ok (.list ys)
  | .exis i _ c _ _ _ _ _ => mkV fun ρ => match ρ[i]? with
    | some (.exc c' _) => match I.exs[c']? with
      | some xi => .ok (.bool (xi.up.contains c))
      | none => .stuck
    | _ => .stuck
  | .exat i _ f _ _ => mkV fun ρ => match ρ[i]? with
    | some (.exc c' (some d)) => match I.exs[c']? with
      | some xi => if xi.field = some f then .ok d else .stuck
      | none => .stuck
    | _ => .stuck
  | .callk f _ es _ e _ _ _ => mkV fun ρ => ((evs I F es).l ρ).bind fun ds => ((ev I F e).v ρ).bind fun d => F f (ds ++ [d])
  | .ixo i _ _ e _ => mkV fun ρ => match ρ[i]? with
    | some (.own ds) => ((ev I F e).v ρ).bind fun d => R.of (dIx (.list ds) d)
    | _ => .stuck
  | .max2 a b _ _ => mkV fun ρ => ((ev I F a).v ρ).bind fun d => ((ev I F b).v ρ).bind fun e => R.of (dMax2 d e)
  | .lset a _ _ _ _ => mkV fun ρ => ((ev I F a).v ρ).bind fun d => R.of (lSet d)
@[simp] def evs (I : Info) (F : FT) : Es → Ps
  | .nil => ⟨fun _ => .ok [], fun _ => .stuck, fun _ => .stuck, fun _ => .stuck, fun _ => .stuck, fun _ => .ok true⟩
  | .cons a .nil => ⟨fun ρ => ((ev I F a).v ρ).bind fun d => .ok [d], (ev I F a).v, (ev I F a).v, (ev I F a).t, (ev I F a).t, (ev I F a).t⟩
  | .cons a r => ⟨fun ρ => ((ev I F a).v ρ).bind fun d => ((evs I F r).l ρ).bind fun ds => .ok (d :: ds),
      fun ρ => ((ev I F a).v ρ).bind fun d => (R.of (dTru d)).bind fun k => if k = true then (evs I F r).andV ρ else .ok d,
      fun ρ => ((ev I F a).v ρ).bind fun d => (R.of (dTru d)).bind fun k => if k = true then .ok d else (evs I F r).orV ρ,
      fun ρ => ((ev I F a).t ρ).bind fun k => if k = true then (evs I F r).andT ρ else .ok false,
      fun ρ => ((ev I F a).t ρ).bind fun k => if k = true then .ok true else (evs I F r).orT ρ,
      fun ρ => ((ev I F a).t ρ).bind fun k => if k = true then (evs I F r).allT ρ else .ok false⟩
@[simp] def evo (I : Info) (F : FT) : Oe → M (Option Int)
  | .no => fun _ => .ok none
  | .so a => fun ρ => ((ev I F a).v ρ).bind fun d => (R.of (dInt d)).bind fun i => .ok (some i)
@[simp] def evi (I : Info) (F : FT) : It → M (List D)
  | .seq a => fun ρ => ((ev I F a).v ρ).bind fun d => R.of (itemsS d)
  | .rng es _ _ => fun ρ => ((evs I F es).l ρ).bind fun ds => R.of (rngS ds)
  | .enum a _ _ => fun ρ => ((ev I F a).v ρ).bind fun d => R.of (enumS d)
  | .zip a b _ _ => fun ρ => ((ev I F a).v ρ).bind fun d => ((ev I F b).v ρ).bind fun e => R.of (zipS d e)
  | .revd a _ _ => fun ρ => ((ev I F a).v ρ).bind fun d => R.of (revS d)
end
end CH

/-! CH 5: facts of the written forms; the context. -/
namespace CH
open PySem PySem.Spec PyProof.Rows L2

/-! ### written forms -/
theorem star_py (e : E) (r : List Expr) (env : Env) : starEach (e.py :: r) env = (false, eval e.py env) :: starEach r env := by
  cases e <;> rfl
theorem star_any : ∀ (es : Es) (env : Env), ∀ pos, (backTo pos (starEach es.py env)).any (·.1) = false
  | .nil, env, pos => by rfl
  | .cons a r, env, pos => by
    rw [Es.py, star_py]
    exact star_any r env pos
theorem plain_py (e : E) : PlainIx e.py := by
  intro o i
  cases e <;> rfl
theorem fold_py (e : E) (env : Env) (x : Value) : foldedSetIterable e.py env x = pure x := by
  cases e <;> rfl
theorem fold_it (t : It) (env : Env) (x : Value) : foldedSetIterable t.py env x = pure x := by
  cases t <;> first | exact fold_py _ _ _ | rfl
theorem marks_py (op : CmpOp) (e : E) : behindInMarks op e.py = false := by
  cases e <;> rfl
theorem marks2_py (o1 o2 : CmpOp) (b c : E) : lastMarks [o1, o2] [b.py, c.py] = false := marks_py o2 c
def plainT : E → Bool
  | .bop .. => false
  | .not .. => false
  | .cmp .. => false
  | .chn .. => false
  | .ife .. => false
  | _ => true
theorem true_py {e : E} (h : plainT e = true) (env : Env) : ∀ whole, isTrue e.py env whole = (do let v ← whole; standAt e.py.pos; holding [v] (truthy v)) := by
  intro whole
  cases e <;> first | rfl | (cases h)
def isComp : E → Bool
  | .comp .. => true
  | _ => false
theorem swap_py {e : E} (h : isComp e = false) (t : Option Expr) (l : Nat) (env : Env) : swapsWith e.py t l env = pure false := by
  cases e <;> first | rfl | (cases h)
theorem base_cst (c : Const) (k : Nat) (p : Pos) (nm : Str) (env : Env) : attributeBase (.Constant c k p) nm env (eval (.Constant c k p) env) = eval (.Constant c k p) env := by rfl
theorem base_name (x : Str) (p : Pos) (nm : Str) (env : Env) : attributeBase (.Name x p) nm env (eval (.Name x p) env) = eval (.Name x p) env := by rfl

/-! ### the context -/
/-- a def's promise: it comes to what g tells -/
def spD (K : PySem.W.Frag) (ct : Nat → Option (Addr × Str)) (n : Nat) (g : List D → R D) : Sp := fun vs H Q E => vs.length = n ∧ ∃ B ds, Same B H ∧ DpAll K B vs ds ∧
  Ev ⟨K, ct, none, fun cls dx _ H' => E cls dx H'⟩ B H [] Q (g ds)
def bltNames : List Str := ["len", "list", "tuple", "sorted", "str", "isinstance", "int", "bool", "set", "range", "enumerate", "zip", "reversed", "max"]
/-- a function of the table, where it stands -/
structure FnAt (k : Nat) (F : FT) (w : Wd) (X : Cx) (f : Nat) (fi : FInfo) : Prop where
  at_ : ∃ (fa : Addr) (fd : FuncData) (ps : List Str), FnOk X.prog X.w X.K X.mg X.base (L2.CX X.prog X.w) (k + 20) fa fd ps (spD w.K w.ct fi.np (F f)) ∧ X.mg fi.name = some (.ref fa) ∧ PySem.W.keepIn X.K (.ref fa) = true ∧
    (∀ n, n ≤ fi.np → fi.np - n ≤ fi.dfl.length → ∃ ds dvs, Binds X.K fd ps ds ∧ Vals dvs ds ∧ dvs.length = fi.np - n ∧ DpAll w.K (fun _ => none) dvs (fi.fill n)) ∧ (fi.kw ≠ "" → ∃ g gV, KBn X.K fd ps (fi.np - 1) [fi.kw] g gV ∧ ∀ vs z, gV vs [z] = vs ++ [z])
/-- the names of the exception classes by number; 99 is ValueError -/
def nmOf (I : Info) (c : Nat) : Option Str := if c = 99 then some "ValueError" else (I.exs[c]?).map (·.name)
/-- what may be asked of the exception that a suite holds -/
structure ExK (I : Info) (X : Cx) (a : Addr) (c : Nat) (dx : Option Addr) (nm : Str) : Prop where
  isE : ∀ (xi : XInfo) (cc : Nat) (y : Str), I.exs[c]? = some xi → nmOf I cc = some y → Gl X y → (y == ("__debug__" : Str)) = false → Gl X "isinstance" → ∀ {x : Str} {p q r s : Pos} {te : TE}, PE X (.Name x q) te →
    PE X (.Call (.Name "isinstance" p) [.Name x q, .Name y r] [] s) (fun σ H Q => te σ H fun v H1 => v = .ref a ∧ (∀ dd, dx = some dd → ∃ fs, H1 dd = some (.xd fs)) ∧ Q (.bl (xi.up.contains cc)) H1)
  atE : ∀ (xi : XInfo) (f : Str), I.exs[c]? = some xi → xi.field = some f → f = nm ∧ ∀ {x : Str} {p q : Pos} {te : TE}, PE X (.Name x p) te →
    PE X (.Attribute (.Name x p) f q) (fun σ H Q => te σ H fun v H1 => v = .ref a ∧ ∃ d0 fs u, dx = some d0 ∧ H1 d0 = some (.xd fs) ∧ fs.lookup f = some u ∧ Q u H1)
structure CtxOk (I : Info) (sc : Scope) (N : List Str) (k : Nat) (F : FT) (w : Wd) (X : Cx) : Prop where
  hK : X.K = w.K
  hN : X.N = N
  nd : N.Nodup
  sc1 : ∀ (x : Str) (kd : NameKind), sc.names.lookup x = some kd → kd ≠ .free → X.env.scope.names.lookup x = some kd
  sc2 : ∀ (x : Str), sc.names.lookup x = some .free → X.env.scope.names.lookup x = some .cell ∨ X.env.scope.names.lookup x = some .free
  fnc : ∀ (x : Str), sc.names.lookup x = some .cell → X.fn x = true
  un : X.A.units + 500 < cLine
  rm : X.calm = true → Room (k + 20) X.A
  tk : Takes X w.W
  gl : ∀ (g : Nat) (x : Str) (d : D), I.globs[g]? = some (x, d) → ∃ u v, X.mg x = some u ∧ RelV v u ∧ Dp w.K (fun _ => none) v d
  bl : ∀ x ∈ bltNames, X.mg x = none
  fs : X.calm = true → ∀ (f : Nat) (fi : FInfo), I.fns[f]? = some fi → FnAt k F w X f fi
  ex : ∀ (a : Addr) (c : Nat) (dx : Option Addr) (nm : Str), w.sx = some (a, c, dx, nm) → X.calm = false ∧ ExK I X a c dx nm

/-! ### names -/
def visB (sc : Scope) (x : Str) : Bool := match sc.names.lookup x with
  | some .local => true
  | some .cell => true
  | some .free => true
  | _ => false
def glB (sc : Scope) (x : Str) : Bool := match sc.names.lookup x with
  | some .globalImplicit => true
  | _ => false
def locB (sc : Scope) (x : Str) : Bool := match sc.names.lookup x with
  | some .local => true
  | some .cell => true
  | _ => false
def okNm (x : Str) : Bool := !(x == ("__debug__" : Str)) && !(x == ("__classdict__" : Str))
theorem okNm1 {x : Str} (h : okNm x = true) : (x == ("__debug__" : Str)) = false := by
  unfold okNm at h
  rw [Bool.and_eq_true] at h
  simpa using h.1
theorem okNm2 {x : Str} (h : okNm x = true) : (x == ("__classdict__" : Str)) = false := by
  unfold okNm at h
  rw [Bool.and_eq_true] at h
  simpa using h.2
section
variable {I : Info} {sc : Scope} {N : List Str} {k : Nat} {F : FT} {w : Wd} {X : Cx}
theorem CtxOk.vis (C : CtxOk I sc N k F w X) {x : Str} (h : visB sc x = true) : Vis X.env.scope x := by
  unfold visB at h
  split at h
  · rename_i e
    exact .inl (C.sc1 x _ e (by decide))
  · rename_i e
    exact .inr (.inl (C.sc1 x _ e (by decide)))
  · rename_i e
    exact .inr (C.sc2 x e)
  · cases h
theorem CtxOk.gx (C : CtxOk I sc N k F w X) {x : Str} (h : glB sc x = true) : Gl X x := by
  unfold glB at h
  split at h
  · rename_i e
    exact C.sc1 x _ e (by decide)
  · cases h
theorem CtxOk.loc (C : CtxOk I sc N k F w X) {x : Str} (h : locB sc x = true) : Loc X.env.scope x := by
  unfold locB at h
  split at h
  · rename_i e
    exact .inl (C.sc1 x _ e (by decide))
  · rename_i e
    exact .inr (C.sc1 x _ e (by decide))
  · cases h
theorem CtxOk.lfn (C : CtxOk I sc N k F w X) {x : Str} (h : locB sc x = true) : X.fn x = true ∨ X.env.scope.names.lookup x = some .local := by
  unfold locB at h
  split at h
  · rename_i e
    exact .inr (C.sc1 x _ e (by decide))
  · rename_i e
    exact .inl (C.fnc x e)
  · cases h
end

/-! ### the block of a comprehension -/
theorem lookup_relS_free {sc : Scope} : ∀ {names : List (Str × NameKind)} {x : Str}, names.lookup x = some .free →
    (names.map fun (n, k) => if (k == NameKind.free && sc.kind == .function && sc.names.lookup n == some .cell) then (n, NameKind.cell) else (n, k)).lookup x = some .cell ∨
    (names.map fun (n, k) => if (k == NameKind.free && sc.kind == .function && sc.names.lookup n == some .cell) then (n, NameKind.cell) else (n, k)).lookup x = some .free
  | [], _, h => by simp at h
  | (n, k₀) :: r, x, h => by
    have ih := @lookup_relS_free sc r x
    show (List.lookup x ((if (k₀ == NameKind.free && sc.kind == .function && sc.names.lookup n == some .cell) = true then (n, NameKind.cell) else (n, k₀)) :: (r.map _)) = some .cell) ∨
      (List.lookup x ((if (k₀ == NameKind.free && sc.kind == .function && sc.names.lookup n == some .cell) = true then (n, NameKind.cell) else (n, k₀)) :: (r.map _)) = some .free)
    cases hx : x == n with
    | true =>
      simp only [List.lookup_cons, hx] at h
      cases h
      by_cases hc : (NameKind.free == NameKind.free && sc.kind == .function && sc.names.lookup n == some .cell) = true
      · rw [if_pos hc]
        simp only [List.lookup_cons, hx]
        exact .inl trivial
      · rw [if_neg hc]
        simp only [List.lookup_cons, hx]
        exact .inr trivial
    | false =>
      simp only [List.lookup_cons, hx] at h
      by_cases hc : (k₀ == NameKind.free && sc.kind == .function && sc.names.lookup n == some .cell) = true
      · rw [if_pos hc]; simp only [List.lookup_cons, hx]; exact ih h
      · rw [if_neg hc]; simp only [List.lookup_cons, hx]; exact ih h
abbrev Wd.cold (w : Wd) : Wd := { w with W := fun _ _ _ _ => False }
section
variable {I : Info} {sc : Scope} {N : List Str} {k : Nat} {F : FT} {w : Wd} {X : Cx}
theorem CtxOk.blk (C : CtxOk I sc N k F w X) (hc : X.calm = true) (sc' : Scope) (s : Shared) (H : Hp) (A : Addr) (cl : List (Str × Addr)) (fp : List Addr) :
    CtxOk I sc' N k F w.cold (X.blk s H sc' (compEnvC sc' cl A X.env) fp) := by
  refine ⟨C.hK, C.hN, C.nd, fun x kd e n => ?_, fun x e => ?_, fun x e => ?_, C.un, C.rm, takes0, C.gl, C.bl, fun hc f fi e => ⟨(C.fs hc f fi e).at_⟩, fun a c dx nm e => absurd (hc.symm.trans (C.ex a c dx nm e).1) Bool.noConfusion⟩
  · exact lookup_relS_keep n e
  · exact lookup_relS_free e
  · show (sc'.names.lookup x == some NameKind.cell) = true
    rw [e]; rfl
theorem CtxOk.blkOk (C : CtxOk I sc N k F w X) {sc' : Scope} {own : List (Str × Nat)} (h : blkC N sc sc' own = true) : BlkOk X.N X.env.scope sc' own := by
  have b := blkOk_by h
  rw [C.hN]
  refine ⟨b.kind, b.uniq, b.ix, fun y hy e => ?_, b.own⟩
  rcases b.free y hy e with q | q
  · exact .inl (C.sc1 _ _ q (by decide))
  · exact C.sc2 _ q
end

/-! ### which pieces are well written -/
def Tg.wf (N : List Str) (sc : Scope) : Tg → Bool
  | .one i x _ => decide (N[i]? = some x) && locB sc x
  | .two i x _ j y _ _ _ => decide (N[i]? = some x) && locB sc x && decide (N[j]? = some y) && locB sc y
  | .three i x _ j y _ l z _ _ _ => decide (N[i]? = some x) && locB sc x && decide (N[j]? = some y) && locB sc y && decide (N[l]? = some z) && locB sc z
def Tg.isTwo : Tg → Bool
  | .one .. => false
  | .two .. => true
  | .three .. => true
def Tg.ixs : Tg → List Nat
  | .one i _ _ => [i]
  | .two i _ _ j _ _ _ _ => [i, j]
  | .three i _ _ j _ _ l _ _ _ _ => [i, j, l]
def Es.len : Es → Nat
  | .nil => 0
  | .cons _ r => r.len + 1
def isCst : E → Bool
  | .cst .. => true
  | _ => false
def isSCst : E → Bool
  | .cst (.str _) _ _ => true
  | _ => false
mutual
def E.wf (I : Info) (N : List Str) (sc : Scope) (calm : Bool) : E → Bool
  | .var i x _ => decide (N[i]? = some x) && visB sc x && okNm x
  | .glob g x _ => glB sc x && okNm x && decide ((I.globs[g]?).map (·.1) = some x)
  | .cst _ _ _ => true
  | .tup es _ _ => es.wf I N sc calm && decide (es.len ≤ 100)
  | .lst es _ => es.wf I N sc calm && decide (es.len ≤ 100)
  | .bin _ a b _ => a.wf I N sc calm && b.wf I N sc calm
  | .neg a _ => a.wf I N sc calm
  | .not a _ => a.wf I N sc calm
  | .bop _ es _ => es.wf I N sc calm
  | .cmp _ a b _ => a.wf I N sc calm && b.wf I N sc calm
  | .chn _ _ a b c _ => a.wf I N sc calm && b.wf I N sc calm && c.wf I N sc calm
  | .ife t a b _ => t.wf I N sc calm && a.wf I N sc calm && b.wf I N sc calm
  | .ix a i _ => a.wf I N sc calm && i.wf I N sc calm
  | .sl a lo hi _ _ => a.wf I N sc calm && lo.wf I N sc calm && hi.wf I N sc calm
  | .rev a _ _ _ _ => a.wf I N sc calm
  | .call f x es _ _ => calm && glB sc x && okNm x && es.wf I N sc calm && (match I.fns[f]? with
    | some fi => decide (fi.name = x) && decide (es.len ≤ fi.np) && decide (fi.np - es.len ≤ fi.dfl.length)
    | none => false)
  | .bi b a _ _ => calm && glB sc b.nm && a.wf I N sc calm && (match b with
    | .str => false
    | _ => true)
  | .isi t a _ _ _ => glB sc "isinstance" && glB sc t.nm && a.wf I N sc calm
  | .srev a _ _ _ _ => calm && glB sc "sorted" && a.wf I N sc calm
  | .sset a _ _ _ _ => calm && glB sc "sorted" && glB sc "set" && a.wf I N sc calm
  | .join s a p q => isSCst s && s.wf I N sc calm && a.wf I N sc calm && (p.endLine == q.line)
  | .leno i x _ _ _ => decide (N[i]? = some x) && visB sc x && okNm x && glB sc "len"
  | .comp elt tg it ifs sc' own _ => calm && it.wf I N sc calm && (match it with
      | .enum .. => tg.isTwo
      | .zip .. => tg.isTwo
      | _ => true) && blkC N sc sc' own && tg.wf N sc' && (tg.ixs.all fun i => (own.map (·.2)).contains i) && ifs.wf I N sc' calm && decide (ifs.len ≤ 1) && elt.wf I N sc' calm
  | .exis i x c y _ _ _ _ => !calm && decide (N[i]? = some x) && visB sc x && okNm x && glB sc "isinstance" && glB sc y && okNm y && decide (nmOf I c = some y)
  | .exat i x f _ _ => !calm && decide (N[i]? = some x) && visB sc x && okNm x
  | .callk f x es kw e _ _ _ => calm && glB sc x && okNm x && es.wf I N sc calm && e.wf I N sc calm && decide (1 ≤ es.len) && decide (kw ≠ "") && (match I.fns[f]? with
    | some fi => decide (fi.name = x) && decide (es.len + 1 = fi.np) && decide (fi.kw = kw)
    | none => false)
  | .ixo i x _ e _ => decide (N[i]? = some x) && visB sc x && okNm x && e.wf I N sc calm
  | .max2 a b _ _ => calm && glB sc "max" && a.wf I N sc calm && b.wf I N sc calm
  | .lset a _ _ _ _ => calm && glB sc "len" && glB sc "set" && a.wf I N sc calm
def Es.wf (I : Info) (N : List Str) (sc : Scope) (calm : Bool) : Es → Bool
  | .nil => true
  | .cons a r => a.wf I N sc calm && r.wf I N sc calm
def Oe.wf (I : Info) (N : List Str) (sc : Scope) (calm : Bool) : Oe → Bool
  | .no => true
  | .so a => a.wf I N sc calm
def It.wf (I : Info) (N : List Str) (sc : Scope) (calm : Bool) : It → Bool
  | .seq a => a.wf I N sc calm
  | .rng es _ _ => glB sc "range" && es.wf I N sc calm && decide (es.len ≤ 3)
  | .enum a _ _ => glB sc "enumerate" && a.wf I N sc calm
  | .zip a b _ _ => glB sc "zip" && a.wf I N sc calm && b.wf I N sc calm
  | .revd a _ _ => glB sc "reversed" && a.wf I N sc calm
end
end CH

/-! CH 6: the pieces' rules. -/
namespace CH
open PySem PySem.Spec PyProof.Rows L2

theorem R.bind_assoc {α β γ : Type} (r : R α) (f : α → R β) (g : β → R γ) : (r.bind f).bind g = r.bind fun a => (f a).bind g := by
  cases r <;> rfl
theorem Ev.imp {w : Wd} {B H : Hp} {σ : L2.St} {Q Q' : VK} {r : R D} (h : Ev w B H σ Q r) (i : ∀ v H', Q v H' → Q' v H') : Ev w B H σ Q' r := by
  cases r with
  | ok d => exact fun v B' H' e hd => i _ _ (h v B' H' e hd)
  | exc c f => exact h
  | stuck => exact h
theorem EvT.imp {w : Wd} {B H : Hp} {σ : L2.St} {Q Q' : Bool → Hp → Prop} {r : R Bool} (h : EvT w B H σ Q r) (i : ∀ v H', Q v H' → Q' v H') : EvT w B H σ Q' r := by
  cases r with
  | ok d => exact fun B' H' e => i _ _ (h B' H' e)
  | exc c f => exact h
  | stuck => exact h
theorem EvA.imp {w : Wd} {B H : Hp} {σ : L2.St} {Q Q' : List V → Hp → Prop} {r : R (List D)} (h : EvA w B H σ Q r) (i : ∀ v H', Q v H' → Q' v H') : EvA w B H σ Q' r := by
  cases r with
  | ok d => exact fun v B' H' e hd => i _ _ (h v B' H' e hd)
  | exc c f => exact h
  | stuck => exact h
theorem tEi {w : Wd} {m : M D} {σ : L2.St} {H : Hp} {Q Q' : VK} (h : tE w m σ H Q) (i : ∀ v H', Q v H' → Q' v H') : tE w m σ H Q' := let ⟨B, ρ, r, e⟩ := h; ⟨B, ρ, r, e.imp i⟩
theorem tAi {w : Wd} {m : M (List D)} {σ : L2.St} {H : Hp} {Q Q' : List V → Hp → Prop} (h : tA w m σ H Q) (i : ∀ v H', Q v H' → Q' v H') : tA w m σ H Q' := let ⟨B, ρ, r, e⟩ := h; ⟨B, ρ, r, e.imp i⟩
theorem tTi {w : Wd} {m : M Bool} {σ : L2.St} {H : Hp} {Q Q' : Bool → Hp → Prop} (h : tT w m σ H Q) (i : ∀ v H', Q v H' → Q' v H') : tT w m σ H Q' := let ⟨B, ρ, r, e⟩ := h; ⟨B, ρ, r, e.imp i⟩
theorem ev_of {w : Wd} {B H : Hp} {σ : L2.St} {Q : VK} {o : Option D} (h : Ev w B H σ Q (R.of o)) : ∃ z, o = some z ∧ ∀ v B' H', Ext B H B' H' → Dp w.K B' v z → Q v H' := by
  cases o with
  | none => exact h.elim
  | some z => exact ⟨z, rfl, h⟩
theorem evT_of {w : Wd} {B H : Hp} {σ : L2.St} {Q : Bool → Hp → Prop} {o : Option Bool} (h : EvT w B H σ Q (R.of o)) : ∃ z, o = some z ∧ ∀ B' H', Ext B H B' H' → Q z H' := by
  cases o with
  | none => exact h.elim
  | some z => exact ⟨z, rfl, h⟩
theorem of_bind {α β : Type} {o : Option α} {k : α → R β} : ((R.of o).bind k) = match o with
  | some a => k a
  | none => .stuck := by cases o <;> rfl

section
variable {X : Cx} {w : Wd} {e : Expr} {a b c : Expr} {ma mb mc : M D} {pos : Pos}
/-- a value's truth -/
theorem tst (hK : X.K = w.K) (h : PE X e (tE w ma)) (he : ∀ whole, isTrue e X.env whole = (do let v ← whole; standAt e.pos; holding [v] (truthy v))) : PT X e (tT w (mkV ma).t) := by
  refine PT.imp (pt_truth h he) fun σ H Q ⟨B, ρ, r, q⟩ => ?_
  refine tEi (tE_bindT r q) fun v H' ⟨d, B', e1, x, hd, q'⟩ => ?_
  obtain ⟨k, e2, q2⟩ := evT_of q'
  exact ⟨k, hK ▸ tru_of (hd.same x.bh) e2, q2 _ _ (Ext.refl x.bh)⟩
/-- two pieces and an operation -/
theorem two (hK : X.K = w.K) {f : D → D → Option D} (h : PE X e (tOp (r2 X.K f) (tE w ma) (tE w mb))) : PE X e (tE w fun ρ => (ma ρ).bind fun d => (mb ρ).bind fun e => R.of (f d e)) := by
  refine PE.imp h fun σ H Q ⟨B, ρ, r, q⟩ => ?_
  refine tEi (tE_bind r q) fun v H' ⟨d, B', e1, x, hd, q'⟩ => ?_
  refine tEi (tE_bind (r.ext x) q') fun u H'' ⟨d', B'', e2, x', hd', q''⟩ => ?_
  obtain ⟨z, ez, qz⟩ := ev_of q''
  rw [hK]
  exact ⟨B'', d, d', z, x'.bh, hd.same x'.bb, hd', ez, qz⟩
theorem one {r1 : V → Hp → VK → Prop} {f : D → Option D} (hr : ∀ v d z B H Q, Same B H → Dp w.K B v d → f d = some z → (∀ v B' H', Ext B H B' H' → Dp w.K B' v z → Q v H') → r1 v H Q)
    (h : PE X e (fun σ H Q => tE w ma σ H fun v H1 => r1 v H1 Q)) : PE X e (tE w fun ρ => (ma ρ).bind fun d => R.of (f d)) := by
  refine PE.imp h fun σ H Q ⟨B, ρ, r, q⟩ => ?_
  refine tEi (tE_bind r q) fun v H' ⟨d, B', e1, x, hd, q'⟩ => ?_
  obtain ⟨z, ez, qz⟩ := ev_of q'
  exact hr v d z B' H' Q x.bh hd ez qz
theorem p_bin (hK : X.K = w.K) (op : Operator) (ha : PE X a (tE w ma)) (hb : PE X b (tE w mb)) : PE X (.BinOp a op b pos) (tE w fun ρ => (ma ρ).bind fun d => (mb ρ).bind fun e => R.of (dBin op d e)) :=
  two hK (pe_op (or_bin op) ha hb)
theorem p_cmp (hK : X.K = w.K) (hu : X.A.units + 500 < cLine) (op : CmpOp) (ha : PE X a (tE w ma)) (hb : PE X b (tE w mb)) (hm : behindInMarks op b = false) :
    PE X (.Compare a [op] [b] pos) (tE w fun ρ => (ma ρ).bind fun d => (mb ρ).bind fun e => R.of (dCmp op d e)) := two hK (pe_cmpR (or_cmp hu op) ha hb hm)
theorem p_cmpT (hK : X.K = w.K) (hu : X.A.units + 500 < cLine) (op : CmpOp) (ha : PE X a (tE w ma)) (hb : PE X b (tE w mb)) (hm : behindInMarks op b = false) :
    PT X (.Compare a [op] [b] pos) (tT w (mkV fun ρ => (ma ρ).bind fun d => (mb ρ).bind fun e => R.of (dCmp op d e)).t) := by
  refine PT.imp (pt_cmpR (or_cmp hu op) ha hb hm) fun σ H Q ⟨B, ρ, r, q⟩ => ?_
  simp only [mkV, R.bind_assoc] at q
  refine tEi (tE_bindT r q) fun v H' ⟨d, B', e1, x, hd, q'⟩ => ?_
  refine tEi (tE_bindT (r.ext x) q') fun u H'' ⟨d', B'', e2, x', hd', q''⟩ => ?_
  rw [of_bind] at q''
  cases ez : dCmp op d d' with
  | none => rw [ez] at q''; exact q''.elim
  | some z =>
    rw [ez] at q''
    obtain ⟨k, rfl⟩ := cmp_bool ez
    rw [hK]
    refine ⟨B'', d, d', _, x'.bh, hd.same x'.bb, hd', ez, fun v B3 H3 x3 h3 => ?_⟩
    cases h3
    exact ⟨k, rfl, q'' _ _ x3⟩
theorem chain_read (hK : X.K = w.K) {o1 o2 : CmpOp} {σ : L2.St} {B H : Hp} {ρ : List Sl} {Q : VK} (r : Rel w.K w.sx B H σ ρ)
    (q : Ev w B H σ Q ((ma ρ).bind fun d => (mb ρ).bind fun e => (R.of (dCmp o1 d e)).bind fun z => (R.of (dBool z)).bind fun k => if k = true then (mc ρ).bind fun f => R.of (dCmp o2 e f) else .ok (.bool false))) :
    tChain (r2 X.K (dCmp o1)) (r2 X.K (dCmp o2)) (tE w ma) (tE w mb) (tE w mc) σ H Q := by
  refine tEi (tE_bind r q) fun v H' ⟨d, B', e1, x, hd, q'⟩ => ?_
  refine tEi (tE_bind (r.ext x) q') fun u H'' ⟨d', B'', e2, x', hd', q''⟩ => ?_
  rw [of_bind] at q''
  cases ez : dCmp o1 d d' with
  | none => rw [ez] at q''; exact q''.elim
  | some z =>
    rw [ez] at q''
    obtain ⟨k, rfl⟩ := cmp_bool ez
    rw [hK]
    refine ⟨B'', d, d', _, x'.bh, hd.same x'.bb, hd', ez, fun v B3 H3 x3 h3 => ?_⟩
    cases h3
    refine ⟨k, rfl, ?_⟩
    have q3 : Ev w B'' H'' σ Q (if k = true then (mc ρ).bind fun f => R.of (dCmp o2 d' f) else .ok (.bool false)) := q''
    cases k with
    | false =>
      rw [if_neg Bool.false_ne_true] at q3 ⊢
      exact q3 _ _ _ x3 (.bl false)
    | true =>
      rw [if_pos rfl] at q3 ⊢
      refine tEi (tE_bind ((r.ext x).ext (x'.trans x3)) (Ev.mono x3 q3)) fun v4 H4 ⟨d4, B4, e4, x4, hd4, q4⟩ => ?_
      obtain ⟨z, ez, qz⟩ := ev_of q4
      exact ⟨B4, d', d4, z, x4.bh, hd'.same (x3.bb.trans x4.bb), hd4, ez, qz⟩
theorem p_chn (hK : X.K = w.K) (hu : X.A.units + 500 < cLine) (o1 o2 : CmpOp) (ha : PE X a (tE w ma)) (hb : PE X b (tE w mb)) (hc : PE X c (tE w mc)) (hm : lastMarks [o1, o2] [b, c] = false) :
    PE X (.Compare a [o1, o2] [b, c] pos) (tE w fun ρ => (ma ρ).bind fun d => (mb ρ).bind fun e => (R.of (dCmp o1 d e)).bind fun z => (R.of (dBool z)).bind fun k => if k = true then (mc ρ).bind fun f => R.of (dCmp o2 e f) else .ok (.bool false)) :=
  PE.imp (pe_chain (or_cmp hu o1) (or_cmp hu o2) ha hb hc hm) fun σ H Q ⟨B, ρ, r, q⟩ => chain_read hK r q
theorem p_chnT (hK : X.K = w.K) (hu : X.A.units + 500 < cLine) (o1 o2 : CmpOp) (ha : PE X a (tE w ma)) (hb : PE X b (tE w mb)) (hc : PE X c (tE w mc)) (hm : lastMarks [o1, o2] [b, c] = false) :
    PT X (.Compare a [o1, o2] [b, c] pos) (tT w (mkV fun ρ => (ma ρ).bind fun d => (mb ρ).bind fun e => (R.of (dCmp o1 d e)).bind fun z => (R.of (dBool z)).bind fun k => if k = true then (mc ρ).bind fun f => R.of (dCmp o2 e f) else .ok (.bool false)).t) := by
  refine PT.imp (pt_chain (or_cmp hu o1) (or_cmp hu o2) ha hb hc hm) fun σ H Q ⟨B, ρ, r, q⟩ => ?_
  refine chain_read (w := w) hK r ?_
  simp only [mkV] at q
  -- the value is a truth value
  generalize hm : ((ma ρ).bind fun d => (mb ρ).bind fun e => (R.of (dCmp o1 d e)).bind fun z => (R.of (dBool z)).bind fun k => if k = true then (mc ρ).bind fun f => R.of (dCmp o2 e f) else R.ok (.bool false)) = res at q ⊢
  cases res with
  | stuck => exact q
  | exc c f => exact q
  | ok z =>
    have hz : ∃ k, z = .bool k := by
      cases e1 : ma ρ with
      | ok d =>
        cases e2 : mb ρ with
        | ok d' =>
          simp only [e1, e2, R.bind] at hm
          cases e3 : dCmp o1 d d' with
          | none => rw [e3] at hm; cases hm
          | some y =>
            rw [e3] at hm
            obtain ⟨k, rfl⟩ := cmp_bool e3
            cases k with
            | false => cases hm; exact ⟨_, rfl⟩
            | true =>
              cases e4 : mc ρ with
              | ok d4 =>
                simp only [e4, R.of, dBool, if_true] at hm
                cases e5 : dCmp o2 d' d4 with
                | none => rw [e5] at hm; cases hm
                | some y5 =>
                  rw [e5] at hm
                  cases hm
                  exact cmp_bool e5
              | exc _ _ => simp [e4, R.of, dBool, R.bind] at hm
              | stuck => simp [e4, R.of, dBool, R.bind] at hm
        | exc _ _ => simp [e1, e2, R.bind] at hm
        | stuck => simp [e1, e2, R.bind] at hm
      | exc _ _ => simp [e1, R.bind] at hm
      | stuck => simp [e1, R.bind] at hm
    obtain ⟨k, rfl⟩ := hz
    intro v B' H' x hd
    cases hd
    exact ⟨k, rfl, q _ _ x⟩
theorem p_neg (ha : PE X a (tE w ma)) : PE X (.UnaryOp .USub a pos) (tE w fun ρ => (ma ρ).bind fun d => R.of (dNeg d)) := by
  refine one (f := dNeg) (fun v d z B H Q sb hd hz q => ?_) (pe_un un_neg ha)
  cases hd with
  | int i => cases hz; exact ⟨i, rfl, fin_same sb (.int _) q⟩
  | _ => cases hz
theorem p_not (hK : X.K = w.K) (ha : PE X a (tE w ma)) : PE X (.UnaryOp .Not a pos) (tE w fun ρ => (ma ρ).bind fun d => (R.of (dTru d)).bind fun b => .ok (.bool (!b))) := by
  refine PE.imp (pe_notT ha) fun σ H Q ⟨B, ρ, r, q⟩ => ?_
  refine tEi (tE_bind r q) fun v H' ⟨d, B', e1, x, hd, q'⟩ => ?_
  rw [of_bind] at q'
  cases ez : dTru d with
  | none => rw [ez] at q'; exact q'.elim
  | some k =>
    rw [ez] at q'
    exact ⟨k, hK ▸ tru_of (hd.same x.bh) ez, fin_same x.bh (.bl (!k)) q'⟩
theorem p_notT {mt : M Bool} (ha : PT X a (tT w mt)) : PT X (.UnaryOp .Not a pos) (tT w fun ρ => (mt ρ).bind fun b => .ok (!b)) := by
  refine PT.imp (pt_not ha) fun σ H Q ⟨B, ρ, r, q⟩ => ?_
  exact tTi (tT_bindT r q) fun b H' ⟨B', e1, x, q'⟩ => q' _ _ (Ext.refl x.bh)
theorem p_ife {mt : M Bool} (ht : PT X c (tT w mt)) (ha : PE X a (tE w ma)) (hb : PE X b (tE w mb)) : PE X (.IfExp c a b pos) (tE w fun ρ => (mt ρ).bind fun k => if k = true then ma ρ else mb ρ) := by
  refine PE.imp (pe_ifExp ht ha hb) fun σ H Q ⟨B, ρ, r, q⟩ => ?_
  refine tTi (tT_bind r q) fun k H' ⟨B', e1, x, q'⟩ => ?_
  cases k with
  | true => rw [if_pos rfl] at q' ⊢; exact ⟨B', ρ, r.ext x, q'⟩
  | false => rw [if_neg Bool.false_ne_true] at q' ⊢; exact ⟨B', ρ, r.ext x, q'⟩
theorem p_ix (hK : X.K = w.K) (ha : PE X a (tE w ma)) (hb : PE X b (tE w mb)) (hs : PlainIx b) : PE X (.Subscript a b pos) (tE w fun ρ => (ma ρ).bind fun d => (mb ρ).bind fun e => R.of (dIx d e)) :=
  two hK (pe_ix ix_dat ha hb hs)
theorem dp_int {K : PySem.W.Frag} {B : Hp} {v : V} {d : D} {i : Int} (h : Dp K B v d) (e : dInt d = some i) : v = .int i := by
  cases h with
  | int j => cases e; rfl
  | _ => cases e
end
end CH

/-! CH 7: the pieces' rules: names, displays, slices, and, or, calls. -/
namespace CH
open PySem PySem.Spec PyProof.Rows L2
section
variable {X : Cx} {w : Wd} {e : Expr} {es : List Expr} {a b c : Expr} {ma mb mc : M D} {ms : M (List D)} {pos : Pos}
theorem p_var {i : Nat} {x : Str} (hN : X.N[i]? = some x) (hv : Vis X.env.scope x) (h1 : (x == ("__debug__" : Str)) = false) (h2 : (x == ("__classdict__" : Str)) = false) :
    PE X (.Name x pos) (tE w fun ρ => match ρ[i]? with | some (.dat d) => .ok d | _ => .stuck) := by
  refine PE.imp (pe_var hN hv h1 h2) fun σ H Q ⟨B, ρ, r, q⟩ => ?_
  dsimp only at q
  split at q
  · rename_i d hd
    obtain ⟨v, hv, hp⟩ := r.dat i d hd
    exact ⟨v, hv, fin_same r.sub hp q⟩
  · exact q.elim
theorem p_leno (hm : X.mg "len" = none) (hg : Gl X "len") {i : Nat} {x : Str} {p q : Pos} (hN : X.N[i]? = some x) (hv : Vis X.env.scope x) (h1 : (x == ("__debug__" : Str)) = false) (h2 : (x == ("__classdict__" : Str)) = false) :
    PE X (.Call (.Name "len" p) [.Name x q] [] pos) (tE w fun ρ => match ρ[i]? with | some (.own ds) => .ok (.int ds.length) | _ => .stuck) := by
  refine PE.imp (pe_callB call_len_seq hg hm PySem.boot_len (pa_cons (pe_var hN hv h1 h2) pa_nil)) fun σ H Q ⟨B, ρ, r, q⟩ => ?_
  dsimp only at q
  split at q
  · rename_i ds hd
    obtain ⟨a, xs, hv, hH, hB, hp⟩ := r.own i ds hd
    refine ⟨.ref a, hv, a, xs, rfl, .inl (SqL.of hH), ?_⟩
    rw [hp.length]
    exact fin_same r.sub (.int _) q
  · exact q.elim
theorem p_cst {c : Const} {k : Nat} : PE X (.Constant c k pos) (tE w fun _ => R.of (cstD c)) := by
  cases c with
  | none => exact PE.imp pe_non fun σ H Q ⟨B, ρ, r, q⟩ => fin_same r.sub .non q
  | bool b => exact PE.imp pe_bl fun σ H Q ⟨B, ρ, r, q⟩ => fin_same r.sub (.bl b) q
  | int i => exact PE.imp pe_int fun σ H Q ⟨B, ρ, r, q⟩ => fin_same r.sub (.int i) q
  | str s => exact PE.imp pe_str fun σ H Q ⟨B, ρ, r, q⟩ => fin_same r.sub (.str s) q
  | _ => exact ⟨fun pins s σ H Q I ⟨B, ρ, r, q⟩ => q.elim⟩
theorem p_glob {x : Str} {d : D} {u : Value} {v : V} (hg : Gl X x) (hm : X.mg x = some u) (rv : RelV v u) (hd : Dp w.K (fun _ => none) v d) (h1 : (x == ("__debug__" : Str)) = false) : PE X (.Name x pos) (tE w fun _ => R.of (some d)) :=
  PE.imp (pe_glob hg hm rv h1) fun σ H Q ⟨B, ρ, r, q⟩ => fin_same r.sub (hd.same fun b o e => nomatch e) q
theorem p_nil : PA X [] (tA w fun _ => .ok []) := PA.imp pa_nil fun σ H Q ⟨B, ρ, r, q⟩ => q _ _ _ (Ext.refl r.sub) .nil
theorem p_cons (ha : PE X a (tE w ma)) (hr : PA X es (tA w ms)) (hs : starEach (a :: es) X.env = (false, eval a X.env) :: starEach es X.env) :
    PA X (a :: es) (tA w fun ρ => (ma ρ).bind fun d => (ms ρ).bind fun ds => .ok (d :: ds)) := by
  refine PA.imp (pa_cons ha hr hs) fun σ H Q ⟨B, ρ, r, q⟩ => ?_
  refine tEi (tE_bindA r q) fun v H' ⟨d, B', e1, x, hd, q'⟩ => ?_
  refine tAi (tA_bindA (r.ext x) q') fun vs H'' ⟨ds, B'', e2, x', hds, q''⟩ => ?_
  exact q'' _ _ _ (Ext.refl x'.bh) (.cons (hd.same x'.bb) hds)
theorem p_tup {k : Nat} (h : PA X es (tA w ms)) (hn : ∀ ρ ds, ms ρ = .ok ds → ds.length ≤ 100) : PE X (.Tuple es k pos) (tE w fun ρ => (ms ρ).bind fun ds => .ok (.tuple ds)) := by
  refine PE.imp (pe_tup h) fun σ H Q ⟨B, ρ, r, q⟩ => ?_
  refine tAi (tA_bind r q) fun vs H' ⟨ds, B', e1, x, hds, q'⟩ => ?_
  have hl := hds.length
  have h1 := hn _ _ e1
  exact ⟨by have := sizeLine_eq; omega, fin_tup x.bh hds q'⟩
theorem p_lst (h : PA X es (tA w ms)) (hn : ∀ ρ ds, ms ρ = .ok ds → ds.length ≤ 100) : PE X (.List es pos) (tE w fun ρ => (ms ρ).bind fun ds => .ok (.list ds)) := by
  refine PE.imp (pe_lst h) fun σ H Q ⟨B, ρ, r, q⟩ => ?_
  refine tAi (tA_bind r q) fun vs H' ⟨ds, B', e1, x, hds, q'⟩ => ?_
  have hl := hds.length
  have h1 := hn _ _ e1
  exact ⟨by have := sizeLine_eq; omega, fin_lst x.bh hds q'⟩
/-- an optional part of a slice -/
def EvO (w : Wd) (B H : Hp) (σ : L2.St) (Q : Option Int → Hp → Prop) : R (Option Int) → Prop
  | .ok o => ∀ B' H', Ext B H B' H' → Q o H'
  | .exc c f => ∀ cls dx B' H', Ext B H B' H' → ExcAt w.K w.ct B' c f cls dx → w.W cls dx σ H'
  | .stuck => False
def tOo (w : Wd) (m : M (Option Int)) : TO := fun σ H Q => ∃ B ρ, Rel w.K w.sx B H σ ρ ∧ EvO w B H σ Q (m ρ)
theorem PO.imp {X : Cx} {o : Option Expr} {t t' : TO} (h : PO X o t) (i : ∀ σ H Q, t' σ H Q → t σ H Q) : PO X o t' := ⟨fun pins s σ H Q I q => h.run pins s σ H Q I (i _ _ _ q)⟩
theorem tO_bind {B H : Hp} {σ : L2.St} {ρ : List Sl} {m : M (Option Int)} {k : Option Int → R D} {Q : VK} (r : Rel w.K w.sx B H σ ρ) (h : Ev w B H σ Q ((m ρ).bind k)) :
    tOo w m σ H (fun o H' => ∃ B', m ρ = .ok o ∧ Ext B H B' H' ∧ Ev w B' H' σ Q (k o)) := by
  refine ⟨B, ρ, r, ?_⟩
  cases e : m ρ with
  | ok d =>
    rw [e] at h
    exact fun B' H' x => ⟨B', rfl, x, Ev.mono x h⟩
  | exc c f => rw [e] at h; exact h
  | stuck => rw [e] at h; exact h
theorem tOi {m : M (Option Int)} {σ : L2.St} {H : Hp} {Q Q' : Option Int → Hp → Prop} (h : tOo w m σ H Q) (i : ∀ v H', Q v H' → Q' v H') : tOo w m σ H Q' := by
  obtain ⟨B, ρ, r, e⟩ := h
  refine ⟨B, ρ, r, ?_⟩
  cases e1 : m ρ with
  | ok d => rw [e1] at e; exact fun B' H' x => i _ _ (e B' H' x)
  | exc c f => rw [e1] at e; exact e
  | stuck => rw [e1] at e; exact e
theorem p_no : PO X none (tOo w fun _ => .ok none) := PO.imp po_none fun σ H Q ⟨B, ρ, r, q⟩ => q _ _ (Ext.refl r.sub)
theorem p_so (h : PE X e (tE w ma)) : PO X (some e) (tOo w fun ρ => (ma ρ).bind fun d => (R.of (dInt d)).bind fun i => .ok (some i)) := by
  refine PO.imp (po_some h) fun σ H Q ⟨B, ρ, r, q⟩ => ?_
  dsimp only at q
  refine ⟨B, ρ, r, ?_⟩
  cases e1 : ma ρ with
  | ok d =>
    rw [e1] at q
    cases e2 : dInt d with
    | none => simp only [R.bind, e2, R.of] at q; exact q.elim
    | some i =>
      simp only [R.bind, e2, R.of] at q
      exact fun v B' H' x hd => ⟨i, dp_int hd e2, q _ _ x⟩
  | exc c f => rw [e1] at q; exact q
  | stuck => rw [e1] at q; exact q
theorem p_sl (hK : X.K = w.K) {lo hi : Option Expr} {ml mh : M (Option Int)} {p2 : Pos} (ha : PE X a (tE w ma)) (hl : PO X lo (tOo w ml)) (hh : PO X hi (tOo w mh)) :
    PE X (.Subscript a (.Slice lo hi none p2) pos) (tE w fun ρ => (ma ρ).bind fun d => (ml ρ).bind fun l => (mh ρ).bind fun h => R.of (dSl d l h)) := by
  refine PE.imp (pe_slice sl_dat ha hl hh) fun σ H Q ⟨B, ρ, r, q⟩ => ?_
  refine tEi (tE_bind r q) fun v H' ⟨d, B', e1, x, hd, q'⟩ => ?_
  refine tOi (tO_bind (r.ext x) q') fun l H2 ⟨B2, e2, x2, q2⟩ => ?_
  refine tOi (tO_bind ((r.ext x).ext x2) q2) fun h H3 ⟨B3, e3, x3, q3⟩ => ?_
  obtain ⟨z, ez, qz⟩ := ev_of q3
  rw [hK]
  exact ⟨B3, d, z, x3.bh, hd.same (x2.bb.trans x3.bb), ez, qz⟩

/-! ### and, or -/
theorem p_one {op : BoolOp} (h : PE X a (tE w ma)) : PE X (.BoolOp op [a] pos) (tE w ma) := pe_one h
theorem p_and (hK : X.K = w.K) {rest : List Expr} (ha : PE X a (tE w ma)) (hb : PE X (.BoolOp .And (b :: rest) pos) (tE w mb)) :
    PE X (.BoolOp .And (a :: b :: rest) pos) (tE w fun ρ => (ma ρ).bind fun d => (R.of (dTru d)).bind fun k => if k = true then mb ρ else .ok d) := by
  refine PE.imp (pe_andT ha hb) fun σ H Q ⟨B, ρ, r, q⟩ => ?_
  refine tEi (tE_bind r q) fun v H' ⟨d, B', e1, x, hd, q'⟩ => ?_
  rw [of_bind] at q'
  cases ez : dTru d with
  | none => rw [ez] at q'; exact q'.elim
  | some k =>
    rw [ez] at q'
    refine ⟨k, hK ▸ tru_of (hd.same x.bh) ez, ?_⟩
    have q2 : Ev w B' H' σ Q (if k = true then mb ρ else .ok d) := q'
    cases k with
    | true => rw [if_pos rfl] at q2 ⊢; exact ⟨B', ρ, r.ext x, q2⟩
    | false => rw [if_neg Bool.false_ne_true] at q2 ⊢; exact fin_same x.bh hd q2
theorem p_or (hK : X.K = w.K) {rest : List Expr} (ha : PE X a (tE w ma)) (hb : PE X (.BoolOp .Or (b :: rest) pos) (tE w mb)) :
    PE X (.BoolOp .Or (a :: b :: rest) pos) (tE w fun ρ => (ma ρ).bind fun d => (R.of (dTru d)).bind fun k => if k = true then .ok d else mb ρ) := by
  refine PE.imp (pe_orT ha hb) fun σ H Q ⟨B, ρ, r, q⟩ => ?_
  refine tEi (tE_bind r q) fun v H' ⟨d, B', e1, x, hd, q'⟩ => ?_
  rw [of_bind] at q'
  cases ez : dTru d with
  | none => rw [ez] at q'; exact q'.elim
  | some k =>
    rw [ez] at q'
    refine ⟨k, hK ▸ tru_of (hd.same x.bh) ez, ?_⟩
    have q2 : Ev w B' H' σ Q (if k = true then .ok d else mb ρ) := q'
    cases k with
    | true => rw [if_pos rfl] at q2 ⊢; exact fin_same x.bh hd q2
    | false => rw [if_neg Bool.false_ne_true] at q2 ⊢; exact ⟨B', ρ, r.ext x, q2⟩
theorem p_andT {rest : List Expr} {mt mu : M Bool} (ha : PT X a (tT w mt)) (hb : PW X (.BoolOp .And (b :: rest) pos) (tT w mu)) :
    PW X (.BoolOp .And (a :: b :: rest) pos) (tT w fun ρ => (mt ρ).bind fun k => if k = true then mu ρ else .ok false) := by
  refine PW.imp (pw_and ha hb) fun σ H Q ⟨B, ρ, r, q⟩ => ?_
  refine tTi (tT_bindT r q) fun k H' ⟨B', e1, x, q'⟩ => ?_
  cases k with
  | true => rw [if_pos rfl] at q' ⊢; exact ⟨B', ρ, r.ext x, q'⟩
  | false => rw [if_neg Bool.false_ne_true] at q' ⊢; exact q' _ _ (Ext.refl x.bh)
theorem p_orT {rest : List Expr} {mt mu : M Bool} (ha : PT X a (tT w mt)) (hb : PW X (.BoolOp .Or (b :: rest) pos) (tT w mu)) :
    PW X (.BoolOp .Or (a :: b :: rest) pos) (tT w fun ρ => (mt ρ).bind fun k => if k = true then .ok true else mu ρ) := by
  refine PW.imp (pw_or ha hb) fun σ H Q ⟨B, ρ, r, q⟩ => ?_
  refine tTi (tT_bindT r q) fun k H' ⟨B', e1, x, q'⟩ => ?_
  cases k with
  | true => rw [if_pos rfl] at q' ⊢; exact q' _ _ (Ext.refl x.bh)
  | false => rw [if_neg Bool.false_ne_true] at q' ⊢; exact ⟨B', ρ, r.ext x, q'⟩

/-! ### calls of defs -/
/-- what a promise of the table asks, at the caller's slots -/
theorem sp_of {n : Nat} {g : List D → R D} {B H : Hp} {σ : L2.St} {Q : VK} {vs : List V} {ds : List D} (hl : ds.length = n) (sb : Same B H) (r : DpAll w.K B vs ds) (q : Ev w B H σ Q (g ds)) : spD w.K w.ct n g vs H Q (fun cls d H' => w.W cls d σ H') := by
  refine ⟨by rw [r.length]; exact hl, B, ds, sb, r, ?_⟩
  cases e : g ds with
  | ok d => rw [e] at q; exact q
  | exc c f => rw [e] at q; exact q
  | stuck => rw [e] at q; exact q
theorem pe_call0SD {CX : CXT} {k : Nat} {f : Addr} {fd : FuncData} {ps : List Str} {sp : Sp} {dvs : List V} {ds : List Value} {E : L2.St → XK} {x : Str} {p : Pos}
    (F : FnOk X.prog X.w X.K X.mg X.base CX k f fd ps sp) (hr : Room k X.A) (hg : Gl X x) (hm : X.mg x = some (.ref f)) (hk : PySem.W.keepIn X.K (.ref f) = true) (hb : Binds X.K fd ps ds) (hd : Vals dvs ds) (hx : ∀ σ, PassesAt CX X σ (E σ))
    (hdb : (x == ("__debug__" : Str)) = false) : PE X (.Call (.Name x p) [] [] pos) (tCallSD sp dvs E tNil) := by
  refine ⟨fun pins s σ H Q I h => ?_⟩
  refine wpAny_Call_Name_kw (ld_glob I hg hm ?_ hdb)
  exact PySem.W.callWith_K0 I.kIn hk (run_fnSD (us := []) F hr hb hd (hx σ) I .nil h)
theorem call_read {F : FT} {f : Nat} {fi : FInfo} {es : Es} {ms : M (List D)} {dvs : List V} {t : TA} (hl : ∀ ρ ds, ms ρ = .ok ds → ds.length = es.len) (hdl : dvs.length = fi.np - es.len) (hle : es.len ≤ fi.np) (hdd : DpAll w.K (fun _ => none) dvs (fi.fill es.len))
    (ht : ∀ σ H Q, tA w ms σ H Q → t σ H Q) {σ : L2.St} {H : Hp} {Q : VK} (h : tE w (fun ρ => (ms ρ).bind fun ds => F f (ds ++ fi.fill ds.length)) σ H Q) : tCallSD (spD w.K w.ct fi.np (F f)) dvs (fun σ cls d H' => w.W cls d σ H') t σ H Q := by
  obtain ⟨B, ρ, r, q⟩ := h
  refine ht _ _ _ (tAi (tA_bind r q) fun vs H' ⟨ds, B', e1, x, hds, q'⟩ => ?_)
  have e2 := hl _ _ e1
  rw [e2] at q'
  have l2 := hdd.length
  exact sp_of (by rw [List.length_append]; omega) x.bh (hds.append (hdd.same fun b o e => nomatch e)) q'
end
end CH

/-! CH 8: what is walked; comprehensions. -/
namespace CH
open PySem PySem.Spec PyProof.Rows L2

/-- the iterator walks the data ds -/
structure Wk (K : PySem.W.Frag) (J : L2.It) (ds : List D) (B : Hp) : Prop where
  len : ds.length ≤ sizeLine
  at_ : ∀ (i : Nat) (B1 H1 : Hp), Same B B1 → Same B1 H1 →
    (ds.length ≤ i → J.stop i H1) ∧ ∀ d, ds[i]? = some d → J.go i H1 ∧ ∀ x H', J.yld i H1 x H' → ∃ B', Ext B1 H1 B' H' ∧ Dp K B' x d
/-- behind an expression every list has a length within the line -/
def LenOk (K : PySem.W.Frag) (H : Hp) : Prop := ∀ a xs, SqL K H a xs → xs.length ≤ sizeLine
def LenOkT (K : PySem.W.Frag) (H : Hp) : Prop := ∀ a xs, SqT K H a xs → xs.length ≤ sizeLine
theorem PE.len {X : Cx} {e : Expr} {t : TE} (h : PE X e t) : PE X e (fun σ H Q => t σ H fun v H' => LenOk X.K H' → LenOkT X.K H' → Q v H') := ⟨fun pins s σ H Q I q =>
  thn (h.run pins s σ H _ I q) fun u s1 ⟨v, H', I1, r1, q1⟩ => ⟨v, H', I1, r1, q1 (fun a xs h => by obtain ⟨_, _, _, z⟩ := I1.list h; exact z) fun a xs h => by obtain ⟨_, _, _, z⟩ := I1.tuple h; exact z⟩⟩
def EvI (w : Wd) (B H : Hp) (σ : L2.St) (Q : L2.It → Hp → Prop) : R (List D) → Prop
  | .ok ds => ∀ J B' H', Ext B H B' H' → Wk w.K J ds B' → Q J H'
  | .exc c f => ∀ cls dx B' H', Ext B H B' H' → ExcAt w.K w.ct B' c f cls dx → w.W cls dx σ H'
  | .stuck => False
def tI (w : Wd) (m : M (List D)) : TI := fun σ H Q => ∃ B ρ, Rel w.K w.sx B H σ ρ ∧ EvI w B H σ Q (m ρ)
theorem PI.imp {X : Cx} {tg e : Expr} {t t' : TI} (h : PI X tg e t) (i : ∀ σ H Q, t' σ H Q → t σ H Q) : PI X tg e t' := ⟨fun pins s σ H Q I q => h.run pins s σ H Q I (i _ _ _ q)⟩
theorem EvI.mono {w : Wd} {B H B1 H1 : Hp} {σ : L2.St} {Q : L2.It → Hp → Prop} {r : R (List D)} (e : Ext B H B1 H1) (h : EvI w B H σ Q r) : EvI w B1 H1 σ Q r := by
  cases r with
  | ok d => exact fun v B' H' e' => h v B' H' (e.trans e')
  | exc c f => exact fun cls dx B' H' e' => h cls dx B' H' (e.trans e')
  | stuck => exact h
theorem tE_bindI {w : Wd} {B H : Hp} {σ : L2.St} {ρ : List Sl} {m : M D} {k : D → R (List D)} {Q : L2.It → Hp → Prop} (r : Rel w.K w.sx B H σ ρ) (h : EvI w B H σ Q ((m ρ).bind k)) :
    tE w m σ H (fun v H' => ∃ d B', m ρ = .ok d ∧ Ext B H B' H' ∧ Dp w.K B' v d ∧ EvI w B' H' σ Q (k d)) := by
  refine ⟨B, ρ, r, ?_⟩
  cases e : m ρ with
  | ok d =>
    rw [e] at h
    exact fun v B' H' x hd => ⟨d, B', rfl, x, hd, EvI.mono x h⟩
  | exc c f => rw [e] at h; exact h
  | stuck => rw [e] at h; exact h
theorem tA_bindI {w : Wd} {B H : Hp} {σ : L2.St} {ρ : List Sl} {m : M (List D)} {k : List D → R (List D)} {Q : L2.It → Hp → Prop} (r : Rel w.K w.sx B H σ ρ) (h : EvI w B H σ Q ((m ρ).bind k)) :
    tA w m σ H (fun v H' => ∃ d B', m ρ = .ok d ∧ Ext B H B' H' ∧ DpAll w.K B' v d ∧ EvI w B' H' σ Q (k d)) := by
  refine ⟨B, ρ, r, ?_⟩
  cases e : m ρ with
  | ok d =>
    rw [e] at h
    exact fun v B' H' x hd => ⟨d, B', rfl, x, hd, EvI.mono x h⟩
  | exc c f => rw [e] at h; exact h
  | stuck => rw [e] at h; exact h
theorem evI_of {w : Wd} {B H : Hp} {σ : L2.St} {Q : L2.It → Hp → Prop} {o : Option (List D)} (h : EvI w B H σ Q (R.of o)) : ∃ z, o = some z ∧ ∀ J B' H', Ext B H B' H' → Wk w.K J z B' → Q J H' := by
  cases o with
  | none => exact h.elim
  | some z => exact ⟨z, rfl, h⟩

/-! ### the walks -/
section
variable {K : PySem.W.Frag} {B : Hp}
theorem wk_list {a : Addr} {xs : List V} {ds : List D} (h : SqL K B a xs) (r : DpAll K B xs ds) (z : xs.length ≤ sizeLine) : Wk K (Itl K a) ds B := ⟨by rw [← r.length]; exact z, fun i B1 H1 s1 s2 =>
  ⟨fun hl => ⟨xs, (s1.trans s2).seq h, by rw [r.length]; exact hl⟩, fun d hd => by
    obtain ⟨v, hv, hp⟩ := r.get hd
    refine ⟨⟨xs, v, (s1.trans s2).seq h, hv⟩, fun x H' y => ?_⟩
    obtain ⟨rfl, hy⟩ := y
    have e := hy xs ((s1.trans s2).seq h)
    rw [hv] at e
    cases e
    exact ⟨B1, Ext.refl s2, hp.same s1⟩⟩⟩
theorem wk_tup {a : Addr} {xs : List V} {ds : List D} (h : SqT K B a xs) (r : DpAll K B xs ds) (z : xs.length ≤ sizeLine) : Wk K (Itt K a) ds B := ⟨by rw [← r.length]; exact z, fun i B1 H1 s1 s2 =>
  ⟨fun hl => ⟨xs, (s1.trans s2).seqT h, by rw [r.length]; exact hl⟩, fun d hd => by
    obtain ⟨v, hv, hp⟩ := r.get hd
    refine ⟨⟨xs, v, (s1.trans s2).seqT h, hv⟩, fun x H' y => ?_⟩
    obtain ⟨rfl, hy⟩ := y
    have e := hy xs ((s1.trans s2).seqT h)
    rw [hv] at e
    cases e
    exact ⟨B1, Ext.refl s2, hp.same s1⟩⟩⟩
theorem wk_str (x : Str) (z : x.length ≤ lim) : Wk K (Its x) (x.cps.toList.map fun c => .str ⟨#[c]⟩) B := by
  refine ⟨by rw [List.length_map, Array.length_toList]; have := lim_line; exact Nat.le_trans z (by omega), fun i B1 H1 s1 s2 => ?_⟩
  refine ⟨fun hl => ?_, fun d hd => ?_⟩
  · rw [List.length_map, Array.length_toList] at hl
    exact hl
  · rw [List.getElem?_map] at hd
    cases e : x.cps.toList[i]? with
    | none => rw [e] at hd; cases hd
    | some c =>
      rw [e] at hd
      cases hd
      have e2 : x.cps[i]? = some c := by rw [← Array.getElem?_toList]; exact e
      refine ⟨(Array.getElem?_eq_some_iff.mp e2).1, fun y H' h => ?_⟩
      obtain ⟨rfl, c', e3, rfl⟩ := h
      rw [e2] at e3
      cases e3
      exact ⟨B1, Ext.refl s2, .str _⟩
theorem rng_get {lo : Int} {n i : Nat} {d : D} (h : ((List.range n).map fun (i : Nat) => PyData.int (lo + (i : Int)))[i]? = some d) : i < n ∧ d = .int (lo + (i : Int)) := by
  rw [List.getElem?_map] at h
  by_cases hi : i < n
  · rw [List.getElem?_range hi] at h
    cases h
    exact ⟨hi, rfl⟩
  · rw [List.getElem?_eq_none (by rw [List.length_range]; omega)] at h
    cases h
theorem wk_rng (lo : Int) (n : Nat) (z : n ≤ sizeLine) : Wk K (Itr lo n) ((List.range n).map fun (i : Nat) => PyData.int (lo + (i : Int))) B := by
  refine ⟨by rw [List.length_map, List.length_range]; exact z, fun i B1 H1 s1 s2 => ?_⟩
  refine ⟨fun hl => ?_, fun d hd => ?_⟩
  · rw [List.length_map, List.length_range] at hl
    exact hl
  · obtain ⟨hi, rfl⟩ := rng_get hd
    refine ⟨hi, fun y H' h => ?_⟩
    obtain ⟨rfl, rfl⟩ := h
    exact ⟨B1, Ext.refl s2, .int _⟩
theorem wk_rngc (lo : Int) (n : Nat) (z : n ≤ sizeLine) : Wk K (Itc lo (-1) n) ((List.range n).map fun (k : Nat) => PyData.int (lo - (k : Int))) B := by
  refine ⟨by rw [List.length_map, List.length_range]; exact z, fun i B1 H1 s1 s2 => ?_⟩
  refine ⟨fun hl => ?_, fun d hd => ?_⟩
  · rw [List.length_map, List.length_range] at hl
    exact hl
  · rw [List.getElem?_map] at hd
    by_cases hi : i < n
    · rw [List.getElem?_range hi] at hd
      cases hd
      refine ⟨hi, fun y H' h => ?_⟩
      obtain ⟨rfl, rfl⟩ := h
      have e : lo + (i : Int) * (-1) = lo - (i : Int) := by omega
      rw [e]
      exact ⟨B1, Ext.refl s2, .int _⟩
    · rw [List.getElem?_eq_none (by rw [List.length_range]; omega)] at hd
      cases hd
theorem enum_len : ∀ (n : Nat) (ds : List D), (enumFrom n ds).length = ds.length
  | _, [] => rfl
  | n, d :: r => congrArg Nat.succ (enum_len (n + 1) r)
theorem enum_get : ∀ {n i : Nat} {ds : List D} {d : D}, (enumFrom n ds)[i]? = some d → ∃ e, ds[i]? = some e ∧ d = .tuple [.int ((n + i : Nat) : Int), e]
  | _, _, [], _, h => by simp [enumFrom] at h
  | n, 0, e :: r, d, h => by
    have h' : some (PyData.tuple [.int n, e]) = some d := h
    cases h'
    exact ⟨e, rfl, rfl⟩
  | n, i + 1, e :: r, d, h => by
    have h' : (enumFrom (n + 1) r)[i]? = some d := h
    obtain ⟨e', h1, h2⟩ := enum_get h'
    refine ⟨e', h1, ?_⟩
    rw [h2]
    have e2 : n + 1 + i = n + (i + 1) := by omega
    rw [e2]
theorem wk_enum {a : Addr} {xs : List V} {ds : List D} (h : SqL K B a xs) (r : DpAll K B xs ds) (z : xs.length ≤ sizeLine) : Wk K (Ite K a) (enumFrom 0 ds) B := ⟨by rw [enum_len, ← r.length]; exact z, fun i B1 H1 s1 s2 =>
  ⟨fun hl => ⟨xs, (s1.trans s2).seq h, by rw [r.length, ← enum_len 0 ds]; exact hl⟩, fun d hd => by
    obtain ⟨e, he, rfl⟩ := enum_get hd
    obtain ⟨v, hv, hp⟩ := r.get he
    refine ⟨⟨xs, v, (s1.trans s2).seq h, hv⟩, fun x H' y => ?_⟩
    obtain ⟨T, x', rfl, nT, rfl, hy⟩ := y
    have e := hy xs ((s1.trans s2).seq h)
    rw [hv] at e
    cases e
    refine ⟨_, Ext.new s2 nT, ?_⟩
    rw [Nat.zero_add]
    exact Dp.tup_new (.cons (.int _) (.cons ((hp.same s1).same (upd_free (s2.free nT))) .nil))⟩⟩
theorem zip_get {d : D} : ∀ (ds es : List D) (i : Nat), (zipD ds es)[i]? = some d → ∃ a b, ds[i]? = some a ∧ es[i]? = some b ∧ d = .tuple [a, b]
  | [], _, _, h => by simp [zipD] at h
  | _ :: _, [], _, h => by simp [zipD] at h
  | a :: r, b :: s, 0, h => by
    have h' : some (PyData.tuple [a, b]) = some d := h
    cases h'
    exact ⟨a, b, rfl, rfl, rfl⟩
  | a :: r, b :: s, i + 1, h => by
    have h' : (zipD r s)[i]? = some d := h
    obtain ⟨x, y, h1, h2, h3⟩ := zip_get r s i h'
    exact ⟨x, y, h1, h2, h3⟩
theorem zip_len : ∀ (ds es : List D), (zipD ds es).length = min ds.length es.length
  | [], _ => by simp [zipD]
  | _ :: _, [] => by simp [zipD]
  | _ :: r, _ :: s => by
    show (zipD r s).length + 1 = min (r.length + 1) (s.length + 1)
    rw [zip_len r s]
    omega
theorem wk_zip {a b : Addr} {xs ys : List V} {ds es : List D} (h : SqL K B a xs) (r : DpAll K B xs ds) (h' : SqL K B b ys) (r' : DpAll K B ys es) (z : xs.length ≤ sizeLine) : Wk K (Itz K a b) (zipD ds es) B := ⟨by have := zip_len ds es; have := r.length; omega, fun i B1 H1 s1 s2 =>
  ⟨fun hl => ⟨xs, ys, (s1.trans s2).seq h, (s1.trans s2).seq h', by have := zip_len ds es; have := r.length; have := r'.length; omega⟩, fun d hd => by
    obtain ⟨e1, e2, h1, h2, rfl⟩ := zip_get _ _ _ hd
    obtain ⟨v, hv, hp⟩ := r.get h1
    obtain ⟨v', hv', hp'⟩ := r'.get h2
    refine ⟨⟨xs, ys, v, v', (s1.trans s2).seq h, (s1.trans s2).seq h', hv, hv'⟩, fun x H' y => ?_⟩
    obtain ⟨T, x', y', rfl, nT, rfl, hy, hy'⟩ := y
    have e := hy xs ((s1.trans s2).seq h)
    rw [hv] at e
    cases e
    have e' := hy' ys ((s1.trans s2).seq h')
    rw [hv'] at e'
    cases e'
    exact ⟨_, Ext.new s2 nT, Dp.tup_new (.cons ((hp.same s1).same (upd_free (s2.free nT))) (.cons ((hp'.same s1).same (upd_free (s2.free nT))) .nil))⟩⟩⟩
theorem wk_rev {a : Addr} {xs : List V} {ds : List D} (h : SqL K B a xs) (r : DpAll K B xs ds) (z : xs.length ≤ sizeLine) : Wk K (Itv K a xs.length) ds.reverse B := by
  have hl := r.length
  refine ⟨by rw [List.length_reverse]; omega, fun i B1 H1 s1 s2 => ?_⟩
  refine ⟨fun hn => ?_, fun d hd => ?_⟩
  · rw [List.length_reverse] at hn
    show xs.length ≤ i
    omega
  · obtain ⟨hi, _⟩ := List.getElem?_eq_some_iff.mp hd
    rw [List.length_reverse] at hi
    rw [List.getElem?_reverse hi] at hd
    obtain ⟨v, hv, hp⟩ := r.get hd
    rw [← hl] at hv
    refine ⟨⟨by omega, xs, v, (s1.trans s2).seq h, hv⟩, fun x H' y => ?_⟩
    obtain ⟨rfl, hy⟩ := y
    have e := hy xs ((s1.trans s2).seq h)
    rw [hv] at e
    cases e
    exact ⟨B1, Ext.refl s2, hp.same s1⟩
theorem wk_revT {a : Addr} {xs : List V} {ds : List D} (h : SqT K B a xs) (r : DpAll K B xs ds) (z : xs.length ≤ sizeLine) : Wk K (RT.ItvT K a xs.length) ds.reverse B := by
  have hl := r.length
  refine ⟨by rw [List.length_reverse]; omega, fun i B1 H1 s1 s2 => ?_⟩
  refine ⟨fun hn => ?_, fun d hd => ?_⟩
  · rw [List.length_reverse] at hn
    show xs.length ≤ i
    omega
  · obtain ⟨hi, _⟩ := List.getElem?_eq_some_iff.mp hd
    rw [List.length_reverse] at hi
    rw [List.getElem?_reverse hi] at hd
    obtain ⟨v, hv, hp⟩ := r.get hd
    rw [← hl] at hv
    refine ⟨⟨by omega, xs, v, (s1.trans s2).seqT h, hv⟩, fun x H' y => ?_⟩
    obtain ⟨rfl, hy⟩ := y
    have e := hy xs ((s1.trans s2).seqT h)
    rw [hv] at e
    cases e
    exact ⟨B1, Ext.refl s2, hp.same s1⟩
end

/-! ### the iterables -/
section
variable {X : Cx} {w : Wd} {tg e e2 : Expr} {es : List Expr} {ma mb : M D} {ms : M (List D)} {p pos : Pos}
/-- a list, a tuple, a text -/
theorem p_seq (hK : X.K = w.K) (he : PE X e (tE w ma)) : PI X tg e (tI w fun ρ => (ma ρ).bind fun d => R.of (itemsS d)) := by
  refine ⟨fun pins s σ H Q I ⟨B, ρ, r, q⟩ => ?_⟩
  refine thn (he.run pins s σ H _ I (tE_bindI r q)) fun v s1 ⟨y, H1, I1, r1, d, B', e1, x, hd, q'⟩ => ?_
  obtain ⟨z, ez, qz⟩ := evI_of q'
  cases hd with
  | lst h1 r2 =>
    cases ez
    cases r1
    have hq := x.bh.seq h1
    rw [← hK] at hq
    obtain ⟨its, rv, p, hz⟩ := I1.list hq
    refine wpAny_pyIter_list p.isList ?_
    refine ⟨s1.heap.objs.size, [s1.heap.objs.size], _, _, H1, rfl, I1.kept (t' := s1.toks) fun b o e => Heap.get?_push_of_some _ e, turn_list _ _, ⟨_, Heap.get?_push_size _ rfl, rfl, rfl⟩, fun b hb => ?_, qz _ _ _ (Ext.refl x.bh) (by rw [hK]; exact wk_list h1 r2 hz)⟩
    have e : b = s1.heap.objs.size := by simpa using hb
    subst e
    exact I1.fpOk (Nat.le_refl _) (I1.hok.fresh (Nat.le_refl _))
  | tup h1 r2 =>
    cases ez
    cases r1
    have hq := x.bh.seqT h1
    rw [← hK] at hq
    obtain ⟨its, rv, p, hz⟩ := I1.tuple hq
    refine wpAny_pyIter_tuple (show s1.heap.IsTuple _ its.toArray from p) ?_
    refine ⟨s1.heap.objs.size, [s1.heap.objs.size], _, _, H1, rfl, I1.kept (t' := s1.toks) fun b o e => Heap.get?_push_of_some _ e, turn_tuple _ _, ⟨_, Heap.get?_push_size _ rfl, rfl, rfl⟩, fun b hb => ?_, qz _ _ _ (Ext.refl x.bh) (by rw [hK]; exact wk_tup h1 r2 hz)⟩
    have e : b = s1.heap.objs.size := by simpa using hb
    subst e
    exact I1.fpOk (Nat.le_refl _) (I1.hok.fresh (Nat.le_refl _))
  | str z =>
    simp only [itemsS] at ez
    split at ez
    · rename_i hz
      cases ez
      obtain ⟨t, rfl⟩ := r1
      have q2 := qz _ _ _ (Ext.refl x.bh) (wk_str z hz)
      cases ha : z.cps.all (· < 128)
      · exact wpAny_pyIter_wide ha (pi_one (tk := s1.toks) I1 _ (turn_str _ z t "str_iterator" (.inr rfl)) ⟨_, Heap.get?_push_size _ rfl, rfl, rfl⟩ q2)
      · exact wpAny_pyIter_ascii ha (pi_one (tk := s1.toks) I1 _ (turn_str _ z t "str_ascii_iterator" (.inl rfl)) ⟨_, Heap.get?_push_size _ rfl, rfl, rfl⟩ q2)
    · cases ez
  | _ => cases ez
theorem int_of {K : PySem.W.Frag} {B : Hp} {v : V} {i : Int} (h : Dp K B v (.int i)) : v = .int i := by cases h; rfl
theorem p_enum (hK : X.K = w.K) {elts : List Expr} {kk : Nat} {tpos : Pos} (hg : Gl X "enumerate") (hm : X.mg "enumerate" = none) (he : PE X e (tE w ma)) (hs : starEach [e] X.env = [(false, eval e X.env)]) :
    PI X (.Tuple elts kk tpos) (.Call (.Name "enumerate" p) [e] [] pos) (tI w fun ρ => (ma ρ).bind fun d => R.of (enumS d)) := by
  refine PI.imp (pi_enum hg hm (pa_cons (PE.len he) pa_nil hs) hs) fun σ H Q ⟨B, ρ, r, q⟩ => ?_
  refine tEi (tE_bindI r q) fun v H' ⟨d, B', e1, x, hd, q'⟩ ok _ => ?_
  obtain ⟨z, ez, qz⟩ := evI_of q'
  cases hd with
  | lst h1 r2 =>
    cases ez
    have z := ok _ _ (by rw [hK]; exact x.bh.seq h1)
    rw [hK]
    exact ⟨_, _, rfl, x.bh.seq h1, qz _ _ _ (Ext.refl x.bh) (wk_enum h1 r2 z)⟩
  | _ => cases ez
theorem p_zip (hK : X.K = w.K) {elts : List Expr} {kk : Nat} {tpos : Pos} (hg : Gl X "zip") (hm : X.mg "zip" = none) (he : PE X e (tE w ma)) (he2 : PE X e2 (tE w mb)) (hs : starEach [e, e2] X.env = (false, eval e X.env) :: starEach [e2] X.env) (hs2 : starEach [e2] X.env = [(false, eval e2 X.env)]) :
    PI X (.Tuple elts kk tpos) (.Call (.Name "zip" p) [e, e2] [] pos) (tI w fun ρ => (ma ρ).bind fun d => (mb ρ).bind fun e => R.of (zipS d e)) := by
  refine PI.imp (pi_zip hg hm (pa_cons (PE.len he) (pa_cons he2 pa_nil hs2) hs) hs (by rw [hs2]; rfl)) fun σ H Q ⟨B, ρ, r, q⟩ => ?_
  refine tEi (tE_bindI r q) fun v H' ⟨d, B', e1, x, hd, q'⟩ ok _ => ?_
  refine tEi (tE_bindI (r.ext x) q') fun v2 H2 ⟨d2, B2, e2, x2, hd2, q2⟩ => ?_
  obtain ⟨z, ez, qz⟩ := evI_of q2
  cases hd with
  | lst h1 r1 =>
    cases hd2 with
    | lst h2 r2 =>
      cases ez
      have z := ok _ _ (by rw [hK]; exact x.bh.seq h1)
      rw [hK]
      exact ⟨_, _, _, _, rfl, (x2.bb.trans x2.bh).seq h1, x2.bh.seq h2, qz _ _ _ (Ext.refl x2.bh) (wk_zip (x2.bb.seq h1) (r1.same x2.bb) h2 r2 z)⟩
    | _ => cases ez
  | _ => cases hd2 <;> cases ez
theorem p_revd (hK : X.K = w.K) (hg : Gl X "reversed") (hm : X.mg "reversed" = none) (he : PE X e (tE w ma)) (hs : starEach [e] X.env = (false, eval e X.env) :: starEach [] X.env) :
    PI X tg (.Call (.Name "reversed" p) [e] [] pos) (tI w fun ρ => (ma ρ).bind fun d => R.of (revS d)) := by
  refine PI.imp (RT.pi_revA hg hm (PE.len he) hs) fun σ H Q ⟨B, ρ, r, q⟩ => ?_
  refine tEi (tE_bindI r q) fun v H' ⟨d, B', e1, x, hd, q'⟩ ok okT => ?_
  obtain ⟨z, ez, qz⟩ := evI_of q'
  cases hd with
  | lst h1 r2 =>
    cases ez
    have z := ok _ _ (by rw [hK]; exact x.bh.seq h1)
    rw [hK]
    exact ⟨_, _, rfl, .inl ⟨x.bh.seq h1, qz _ _ _ (Ext.refl x.bh) (wk_rev h1 r2 z)⟩⟩
  | tup h1 r2 =>
    cases ez
    have z := okT _ _ (by rw [hK]; exact x.bh.seqT h1)
    rw [hK]
    exact ⟨_, _, rfl, .inr ⟨x.bh.seqT h1, qz _ _ _ (Ext.refl x.bh) (wk_revT h1 r2 z)⟩⟩
  | _ => cases ez
theorem rsm_len {i j : Int} (h : rsm i = true) (h' : rsm j = true) : (j - i).toNat ≤ sizeLine := by
  have h := smI_iff.mp h
  have h' := smI_iff.mp h'
  have := sizeLine_eq
  omega
theorem rsm_of {j : Int} (h : rsm j = true) : -(2 ^ 62) ≤ j ∧ j < 2 ^ 62 := by
  have h := smI_iff.mp h
  omega
theorem rngS1 {d : D} {z : List D} (h : rngS [d] = some z) : ∃ j, d = .int j ∧ rsm j = true ∧ z = rngD 0 j := by
  cases d with
  | int j =>
    simp only [rngS] at h
    by_cases hj : rsm j = true
    · rw [if_pos hj] at h
      exact ⟨j, rfl, hj, (Option.some.inj h).symm⟩
    · rw [if_neg hj] at h
      cases h
  | _ => cases h
theorem rngS2 {d e : D} {z : List D} (h : rngS [d, e] = some z) : ∃ i j, d = .int i ∧ e = .int j ∧ rsm i = true ∧ rsm j = true ∧ z = rngD i j := by
  cases d with
  | int i =>
    cases e with
    | int j =>
      simp only [rngS] at h
      by_cases hj : (rsm i && rsm j) = true
      · rw [if_pos hj] at h
        rw [Bool.and_eq_true] at hj
        exact ⟨i, j, rfl, rfl, hj.1, hj.2, (Option.some.inj h).symm⟩
      · rw [if_neg hj] at h
        cases h
    | _ => cases h
  | _ => cases h
theorem rngS3 {d e f : D} {z : List D} (h : rngS [d, e, f] = some z) : ∃ i j, d = .int i ∧ e = .int j ∧ f = .int (-1) ∧ rsm i = true ∧ rsm j = true ∧ z = (List.range (i - j).toNat).map fun (k : Nat) => PyData.int (i - (k : Int)) := by
  cases d with
  | int i =>
    cases e with
    | int j =>
      cases f with
      | int c =>
        simp only [rngS] at h
        by_cases hj : (rsm i && rsm j && decide (c = -1)) = true
        · rw [if_pos hj] at h
          rw [Bool.and_eq_true, Bool.and_eq_true, decide_eq_true_eq] at hj
          obtain ⟨⟨h1, h2⟩, rfl⟩ := hj
          exact ⟨i, j, rfl, rfl, rfl, h1, h2, (Option.some.inj h).symm⟩
        · rw [if_neg hj] at h
          cases h
      | _ => cases h
    | _ => cases h
  | _ => cases h
variable {b c : Expr}
theorem p_rng1 (hg : Gl X "range") (hm : X.mg "range" = none) (ha : PA X [e] (tA w ms)) (h1 : ∀ ρ ds, ms ρ = .ok ds → ds.length = 1) (hs : starEach [e] X.env = [(false, eval e X.env)]) :
    PI X tg (.Call (.Name "range" p) [e] [] pos) (tI w fun ρ => (ms ρ).bind fun ds => R.of (rngS ds)) := by
  refine PI.imp (pi_range1 hg hm ha hs) fun σ H Q ⟨B, ρ, r, q⟩ => ?_
  refine tAi (tA_bindI r q) fun vs H' ⟨ds, B', e1, x, hds, q'⟩ => ?_
  obtain ⟨z, ez, qz⟩ := evI_of q'
  have hl := h1 _ _ e1
  match ds, hl, hds, ez with
  | [d], _, hds, ez =>
    obtain ⟨j, rfl, hj, rfl⟩ := rngS1 ez
    have hb := rsm_of hj
    cases hds with
    | cons a b =>
      cases b
      cases a
      have q2 := qz _ _ _ (Ext.refl x.bh) (wk_rng 0 (j - 0).toNat (rsm_len (by decide) hj))
      rw [Int.sub_zero] at q2
      exact ⟨j, rfl, hb.1, hb.2, q2⟩
theorem p_rng2 (hg : Gl X "range") (hm : X.mg "range" = none) (ha : PA X [e, b] (tA w ms)) (h1 : ∀ ρ ds, ms ρ = .ok ds → ds.length = 2) (hs : starEach [e, b] X.env = [(false, eval e X.env), (false, eval b X.env)]) (hs2 : starEach [b] X.env = [(false, eval b X.env)]) :
    PI X tg (.Call (.Name "range" p) [e, b] [] pos) (tI w fun ρ => (ms ρ).bind fun ds => R.of (rngS ds)) := by
  refine PI.imp (pi_range2 hg hm ha hs hs2) fun σ H Q ⟨B, ρ, r, q⟩ => ?_
  refine tAi (tA_bindI r q) fun vs H' ⟨ds, B', e1, x, hds, q'⟩ => ?_
  obtain ⟨z, ez, qz⟩ := evI_of q'
  have hl := h1 _ _ e1
  match ds, hl, hds, ez with
  | [d, d'], _, hds, ez =>
    obtain ⟨i, j, rfl, rfl, hi, hj, rfl⟩ := rngS2 ez
    have hb := rsm_of hi
    have hb' := rsm_of hj
    cases hds with
    | cons a b =>
      cases b with
      | cons b c =>
        cases c
        cases a
        cases b
        exact ⟨i, j, rfl, ⟨hb.1, hb.2, hb'.1, hb'.2⟩, qz _ _ _ (Ext.refl x.bh) (wk_rng i (j - i).toNat (rsm_len hi hj))⟩
theorem p_rng3 (hg : Gl X "range") (hm : X.mg "range" = none) (ha : PA X [e, b, c] (tA w ms)) (h1 : ∀ ρ ds, ms ρ = .ok ds → ds.length = 3) (hs : starEach [e, b, c] X.env = (false, eval e X.env) :: starEach [b, c] X.env) (hs2 : (backTo pos (starEach [b, c] X.env)).any (·.1) = false) :
    PI X tg (.Call (.Name "range" p) [e, b, c] [] pos) (tI w fun ρ => (ms ρ).bind fun ds => R.of (rngS ds)) := by
  refine PI.imp (pi_range3 hg hm ha hs hs2) fun σ H Q ⟨B, ρ, r, q⟩ => ?_
  refine tAi (tA_bindI r q) fun vs H' ⟨ds, B', e1, x, hds, q'⟩ => ?_
  obtain ⟨z, ez, qz⟩ := evI_of q'
  have hl := h1 _ _ e1
  match ds, hl, hds, ez with
  | [d, d', d''], _, hds, ez =>
    obtain ⟨i, j, rfl, rfl, rfl, hi, hj, rfl⟩ := rngS3 ez
    have hb := rsm_of hi
    have hb' := rsm_of hj
    cases hds with
    | cons a b =>
      cases b with
      | cons b c =>
        cases c with
        | cons c d =>
          cases d
          cases a
          cases b
          cases c
          exact ⟨i, j, -1, (i - j).toNat, rfl, RgC.neg hb.1 hb.2 hb'.1 hb'.2, qz _ _ _ (Ext.refl x.bh) (wk_rngc i (i - j).toNat (rsm_len hj hi))⟩
end
end CH

/-! CH 9: targets; comprehensions. -/
namespace CH
open PySem PySem.Spec PyProof.Rows L2

section
variable {K : PySem.W.Frag} {sx : Option (Addr × Nat × Option Addr × Str)} {B H : Hp} {σ : L2.St} {ρ : List Sl}
theorem get_set {α : Type} {l : List α} {i j : Nat} {x y : α} (h : (l.set i x)[j]? = some y) : (j = i ∧ y = x) ∨ (j ≠ i ∧ l[j]? = some y) := by
  by_cases e : j = i
  · subst e
    by_cases hl : j < l.length
    · rw [List.getElem?_set_self hl] at h; cases h; exact .inl ⟨rfl, rfl⟩
    · rw [List.getElem?_eq_none (by rw [List.length_set]; omega)] at h; cases h
  · rw [List.getElem?_set_ne (Ne.symm e)] at h
    exact .inr ⟨e, h⟩
/-- a slot is written -/
theorem Rel.put (r : Rel K sx B H σ ρ) (i : Nat) (x : Option V) (s : Sl) (hd : ∀ d, s = .dat d → ∃ v, x = some v ∧ Dp K B v d) (ho : ∀ ds, s ≠ .own ds) (he : ∀ c f, s ≠ .exc c f) : Rel K sx B H (σ.set i x) (ρ.set i s) := by
  have hlen := r.len
  refine ⟨by rw [List.length_set, List.length_set]; exact hlen, r.sub, fun j d h => ?_, fun j ds h => ?_, fun j k ds es a h1 h2 h3 h4 => ?_, fun j c f h => ?_⟩
  · rcases get_set h with ⟨rfl, e⟩ | ⟨n, h⟩
    · obtain ⟨v, rfl, hp⟩ := hd d e.symm
      refine ⟨v, ?_, hp⟩
      have hl := (List.getElem?_eq_some_iff.mp h).1
      rw [List.length_set] at hl
      rw [List.getElem?_set_self (by omega)]
    · obtain ⟨v, h1, h2⟩ := r.dat j d h
      exact ⟨v, by rw [List.getElem?_set_ne (Ne.symm n)]; exact h1, h2⟩
  · rcases get_set h with ⟨rfl, e⟩ | ⟨n, h⟩
    · exact absurd e.symm (ho ds)
    · obtain ⟨a, xs, h1, h2⟩ := r.own j ds h
      exact ⟨a, xs, by rw [List.getElem?_set_ne (Ne.symm n)]; exact h1, h2⟩
  · rcases get_set h1 with ⟨_, e⟩ | ⟨n1, h1⟩
    · exact absurd e.symm (ho ds)
    · rcases get_set h2 with ⟨_, e⟩ | ⟨n2, h2⟩
      · exact absurd e.symm (ho es)
      · rw [List.getElem?_set_ne (Ne.symm n1)] at h3
        rw [List.getElem?_set_ne (Ne.symm n2)] at h4
        exact r.sep j k ds es a h1 h2 h3 h4
  · rcases get_set h with ⟨rfl, e⟩ | ⟨n, h⟩
    · exact absurd e.symm (he c f)
    · obtain ⟨a, dx, nm, h1, h2, h3⟩ := r.exc j c f h
      exact ⟨a, dx, nm, h1, by rw [List.getElem?_set_ne (Ne.symm n)]; exact h2, h3⟩
theorem Rel.setD (r : Rel K sx B H σ ρ) (i : Nat) {v : V} {d : D} (h : Dp K B v d) : Rel K sx B H (σ.set i (some v)) (setS ρ i d) :=
  r.put i (some v) (.dat d) (fun d' e => by cases e; exact ⟨v, rfl, h⟩) (fun _ e => by cases e) fun _ _ e => by cases e
theorem Rel.wipe (r : Rel K sx B H σ ρ) : ∀ vs : List Nat, Rel K sx B H (wipe σ vs) (wipeS ρ vs)
  | [] => r
  | v :: vs => (Rel.wipe r vs).put v none .no (fun _ e => by cases e) (fun _ e => by cases e) fun _ _ e => by cases e
end
theorem wipe_get (σ : L2.St) (i : Nat) : ∀ vs : List Nat, i ∈ vs → (wipe σ vs)[i]? = if i < σ.length then some none else none
  | [], h => by cases h
  | v :: vs, h => by
    unfold wipe
    by_cases e : v = i
    · subst e
      by_cases hl : v < σ.length
      · rw [List.getElem?_set_self (by rw [wipe_length]; exact hl), if_pos hl]
      · rw [List.getElem?_eq_none (by rw [List.length_set, wipe_length]; omega), if_neg hl]
    · rw [List.getElem?_set_ne e]
      exact wipe_get σ i vs ((List.mem_cons.mp h).elim (fun z => absurd z.symm e) id)
theorem wipe_set {σ : L2.St} {i : Nat} {x : Option V} {vs : List Nat} (h : i ∈ vs) : wipe (σ.set i x) vs = wipe σ vs := by
  apply List.ext_getElem?
  intro j
  by_cases hj : j ∈ vs
  · rw [wipe_get _ _ _ hj, wipe_get _ _ _ hj, List.length_set]
  · rw [wipe_out hj, wipe_out hj, List.getElem?_set_ne (fun e => hj (by rw [← e]; exact h))]

/-- a target takes a datum -/
def tG (w : Wd) (tg : Tg) : TG := fun v σ H Q => ∃ B ρ d ρ', Rel w.K w.sx B H σ ρ ∧ Dp w.K B v d ∧ tg.set d ρ = some ρ' ∧
  ∀ σ', Rel w.K w.sx B H σ' ρ' → (∀ vs : List Nat, (∀ i ∈ tg.ixs, i ∈ vs) → wipe σ' vs = wipe σ vs) → Q σ' H
section
variable {I : Info} {sc : Scope} {N : List Str} {k : Nat} {F : FT} {w : Wd} {X : Cx}
theorem p_tg (C : CtxOk I sc N k F w X) (hc : X.calm = true) {tg : Tg} (h : tg.wf N sc = true) : PG X tg.py (tG w tg) := by
  have hK := C.hK
  have hN : X.N.Nodup := by rw [C.hN]; exact C.nd
  cases tg with
  | one i x p =>
    simp only [Tg.wf, Bool.and_eq_true, decide_eq_true_eq] at h
    have g := pg_name (X := X) (pos := p) hN (by rw [C.hN]; exact h.1) (C.loc h.2) (C.lfn h.2)
    refine ⟨fun pins s σ H v u Q I r hw => g.run pins s σ H v u Q I r ?_⟩
    obtain ⟨B, ρ, d, ρ', hr, hd, e, q⟩ := hw
    cases e
    exact q _ (hr.setD i hd) fun vs hv => wipe_set (hv i (List.mem_singleton.mpr rfl))
  | two i x p j y q k r =>
    simp only [Tg.wf, Bool.and_eq_true, decide_eq_true_eq] at h
    obtain ⟨⟨⟨h1, h2⟩, h3⟩, h4⟩ := h
    have g := pg_tup (X := X) (k := k) (pos := r) hc (pgs_cons (pg_name (pos := p) hN (by rw [C.hN]; exact h1) (C.loc h2) (C.lfn h2)) (pgs_cons (pg_name (pos := q) hN (by rw [C.hN]; exact h3) (C.loc h4) (C.lfn h4)) pgs_nil)) (n := 2) (by rfl) (by rfl)
    refine ⟨fun pins s σ H v u Q I ru hw => g.run pins s σ H v u Q I ru ?_⟩
    obtain ⟨B, ρ, d, ρ', hr, hd, e, q⟩ := hw
    cases hd with
    | @tup a xs ds hq hx =>
      match ds, hx, e with
      | [d1, d2], hx, e =>
        cases hx with
        | cons hx1 hx2 =>
          cases hx2 with
          | cons hx2 hx3 =>
            cases hx3
            cases e
            refine ⟨a, _, rfl, hK ▸ hr.sub.seqT hq, rfl, _, _, rfl, _, _, rfl, rfl, ?_⟩
            exact q _ ((hr.setD i hx1).setD j hx2) fun vs hv => by
              rw [wipe_set (hv j (by simp [Tg.ixs])), wipe_set (hv i (by simp [Tg.ixs]))]
      | [], _, e => cases e
      | [_], _, e => cases e
      | _ :: _ :: _ :: _, _, e => cases e
    | _ => cases e
  | three i x p j y q l z s k r =>
    simp only [Tg.wf, Bool.and_eq_true, decide_eq_true_eq] at h
    obtain ⟨⟨⟨⟨⟨h1, h2⟩, h3⟩, h4⟩, h5⟩, h6⟩ := h
    have g := pg_tup (X := X) (k := k) (pos := r) hc (pgs_cons (pg_name (pos := p) hN (by rw [C.hN]; exact h1) (C.loc h2) (C.lfn h2)) (pgs_cons (pg_name (pos := q) hN (by rw [C.hN]; exact h3) (C.loc h4) (C.lfn h4)) (pgs_cons (pg_name (pos := s) hN (by rw [C.hN]; exact h5) (C.loc h6) (C.lfn h6)) pgs_nil))) (n := 3) (by rfl) (by rfl)
    refine ⟨fun pins s σ H v u Q I ru hw => g.run pins s σ H v u Q I ru ?_⟩
    obtain ⟨B, ρ, d, ρ', hr, hd, e, q⟩ := hw
    cases hd with
    | @tup a xs ds hq hx =>
      match ds, hx, e with
      | [d1, d2, d3], hx, e =>
        cases hx with
        | cons hx1 hx2 =>
          cases hx2 with
          | cons hx2 hx3 =>
            cases hx3 with
            | cons hx3 hx4 =>
              cases hx4
              cases e
              refine ⟨a, _, rfl, hK ▸ hr.sub.seqT hq, rfl, _, _, rfl, _, _, rfl, _, _, rfl, rfl, ?_⟩
              exact q _ (((hr.setD i hx1).setD j hx2).setD l hx3) fun vs hv => by
                rw [wipe_set (hv l (by simp [Tg.ixs])), wipe_set (hv j (by simp [Tg.ixs])), wipe_set (hv i (by simp [Tg.ixs]))]
      | [], _, e => cases e
      | [_], _, e => cases e
      | [_, _], _, e => cases e
      | _ :: _ :: _ :: _ :: _, _, e => cases e
    | _ => cases e
end

theorem nx_ok {α : Type} {r : R α} {a : α} (h : r.nx = .ok a) : r = .ok a := by cases r <;> cases h; rfl
theorem compL_exc {bd : D → Option (List Sl)} {test : M Bool} {elt : M D} {c : Nat} {f : Option D} (ht : ∀ ρ, test ρ ≠ .exc c f) (he : ∀ ρ, elt ρ ≠ .exc c f) : ∀ ds, compL bd test elt ds ≠ .exc c f
  | [] => fun h => by cases h
  | d :: ds => fun h => by
    have ih := compL_exc (bd := bd) ht he ds
    rw [compL, of_bind] at h
    cases e1 : bd d with
    | none => rw [e1] at h; cases h
    | some ρ =>
      rw [e1] at h
      have h : ((test ρ).bind fun b => if b = true then (elt ρ).bind fun y => (compL bd test elt ds).bind fun ys => .ok (y :: ys) else compL bd test elt ds) = .exc c f := h
      cases e2 : test ρ with
      | stuck => rw [e2] at h; cases h
      | exc c' f' => rw [e2] at h; cases h; exact ht ρ e2
      | ok b =>
        rw [e2] at h
        cases b with
        | false => exact ih h
        | true =>
          have h : ((elt ρ).bind fun y => (compL bd test elt ds).bind fun ys => .ok (y :: ys)) = .exc c f := h
          cases e3 : elt ρ with
          | stuck => rw [e3] at h; cases h
          | exc c' f' => rw [e3] at h; cases h; exact he ρ e3
          | ok y =>
            rw [e3] at h
            have h : ((compL bd test elt ds).bind fun ys => R.ok (y :: ys)) = .exc c f := h
            cases e4 : compL bd test elt ds with
            | stuck => rw [e4] at h; cases h
            | ok ys => rw [e4] at h; cases h
            | exc c' f' => rw [e4] at h; cases h; exact ih e4
theorem nx_exc {α : Type} {r : R α} {c : Nat} {f : Option D} : r.nx ≠ .exc c f := by cases r <;> exact fun h => by cases h
/-- the reading of a comprehension -/
theorem comp_read {w : Wd} {tg : Tg} {mi : M (List D)} {mt : M Bool} {me : M D} {vs : List Nat} {σ : L2.St} {H : Hp} {Q : VK} (hix : ∀ i ∈ tg.ixs, i ∈ vs)
    (h : tE w (fun ρ => (mi ρ).bind fun ds => (compL (fun d => tg.set d (wipeS ρ vs)) (fun ρ => (mt ρ).nx) (fun ρ => (me ρ).nx) ds).bind fun ys => .ok (.list ys)) σ H Q) :
    tLc (tI w mi) (tG w.cold tg) (tT w.cold mt) (tE w.cold me) vs σ H Q := by
  obtain ⟨B, ρ, r, q⟩ := h
  dsimp only at q
  refine ⟨B, ρ, r, ?_⟩
  cases e1 : mi ρ with
  | stuck => rw [e1] at q; exact q
  | exc c f => rw [e1] at q; exact q
  | ok ds =>
    rw [e1] at q
    have q : Ev w B H σ Q ((compL (fun d => tg.set d (wipeS ρ vs)) (fun ρ => (mt ρ).nx) (fun ρ => (me ρ).nx) ds).bind fun ys => .ok (.list ys)) := q
    cases e2 : compL (fun d => tg.set d (wipeS ρ vs)) (fun ρ => (mt ρ).nx) (fun ρ => (me ρ).nx) ds with
    | stuck => rw [e2] at q; exact q.elim
    | exc c f => exact absurd e2 (compL_exc (fun _ => nx_exc) (fun _ => nx_exc) ds)
    | ok ys =>
      rw [e2] at q
      intro J B' H' x wk A nA
      have nBA : B' A = none := x.bh.free nA
      refine ⟨fun i m Hi => m = ds.length - i ∧ i ≤ ds.length ∧ ∃ Bi acc da rest, Ext B' H' Bi Hi ∧ Bi A = none ∧ Hi A = some (.lst acc) ∧ DpAll w.K Bi acc da ∧ acc.length ≤ i ∧
        compL (fun d => tg.set d (wipeS ρ vs)) (fun ρ => (mt ρ).nx) (fun ρ => (me ρ).nx) (ds.drop i) = .ok rest ∧ da ++ rest = ys, ?_, ?_⟩
      · refine ⟨ds.length, by simp, Nat.zero_le _, B', [], [], ys, ⟨Same.refl _, upd_free nA, x.bh.trans (upd_free nA), fun a _ n => n⟩, nBA, upd_same, .nil, Nat.le_refl _, ?_, rfl⟩
        rw [List.drop_zero]; exact e2
      · rintro i m Hi ⟨rfl, hi, Bi, acc, da, rest, xi, nA', eA, hacc, hal, ec, ey⟩
        have wki := wk.at_ i Bi Hi xi.bb xi.bh
        by_cases hlt : i < ds.length
        · obtain ⟨d, hd⟩ : ∃ d, ds[i]? = some d := ⟨ds[i], List.getElem?_eq_getElem hlt⟩
          obtain ⟨go, yl⟩ := wki.2 d hd
          refine .inr ⟨go, fun Hn => ∃ Bi acc da rest, Ext B' H' Bi Hn ∧ Bi A = none ∧ Hn A = some (.lst acc) ∧ DpAll w.K Bi acc da ∧ acc.length ≤ i + 1 ∧
            compL (fun d => tg.set d (wipeS ρ vs)) (fun ρ => (mt ρ).nx) (fun ρ => (me ρ).nx) (ds.drop (i + 1)) = .ok rest ∧ da ++ rest = ys, fun Hn hn => ⟨ds.length - (i + 1), by omega, rfl, hlt, hn⟩, fun xv H2 hy => ?_⟩
          obtain ⟨B2, x2, hd2⟩ := yl xv H2 hy
          have hA2 : H2 A = some (.lst acc) := x2.hh _ _ eA
          have nA2 : B2 A = none := x2.nb A (by rw [eA]; exact fun z => nomatch z) nA'
          have r2 : Rel w.K w.sx B2 H2 (wipe σ vs) (wipeS ρ vs) := (((r.ext x).ext xi).ext x2).wipe vs
          have edrop : ds.drop i = d :: ds.drop (i + 1) := by
            have e1 := List.drop_eq_getElem_cons hlt
            rw [List.getElem?_eq_getElem hlt] at hd
            cases hd
            exact e1
          rw [edrop, compL, of_bind] at ec
          cases eb : tg.set d (wipeS ρ vs) with
          | none => rw [eb] at ec; cases ec
          | some ρ' =>
            rw [eb] at ec
            have ec : ((mt ρ').nx.bind fun b => if b = true then (me ρ').nx.bind fun y => (compL (fun d => tg.set d (wipeS ρ vs)) (fun ρ => (mt ρ).nx) (fun ρ => (me ρ).nx) (ds.drop (i + 1))).bind fun ys => .ok (y :: ys)
              else compL (fun d => tg.set d (wipeS ρ vs)) (fun ρ => (mt ρ).nx) (fun ρ => (me ρ).nx) (ds.drop (i + 1))) = .ok rest := ec
            refine ⟨B2, wipeS ρ vs, d, ρ', r2, hd2, eb, fun σ' r' hw => ⟨?_, B2, ρ', r', ?_⟩⟩
            · rw [hw vs hix]
              apply List.ext_getElem?
              intro j
              by_cases hj : j ∈ vs
              · rw [wipe_get _ _ _ hj, wipe_length, wipe_get _ _ _ hj]
              · rw [wipe_out hj]
            · cases et : mt ρ' with
              | stuck => rw [et] at ec; cases ec
              | exc c f => rw [et] at ec; cases ec
              | ok b =>
                rw [et] at ec
                intro B3 H3 x3
                have eA3 : H3 A = some (.lst acc) := x3.hh _ _ hA2
                have nA3 : B3 A = none := x3.nb A (by rw [hA2]; exact fun z => nomatch z) nA2
                have x03 := (xi.trans x2).trans x3
                cases b with
                | false =>
                  rw [if_neg Bool.false_ne_true]
                  exact ⟨B3, acc, da, rest, x03, nA3, eA3, hacc.same (x2.bb.trans x3.bb), by omega, ec, ey⟩
                | true =>
                  rw [if_pos rfl]
                  have ec : ((me ρ').nx.bind fun y => (compL (fun d => tg.set d (wipeS ρ vs)) (fun ρ => (mt ρ).nx) (fun ρ => (me ρ).nx) (ds.drop (i + 1))).bind fun ys => .ok (y :: ys)) = .ok rest := ec
                  refine ⟨B3, ρ', r'.ext x3, ?_⟩
                  cases ee : me ρ' with
                  | stuck => rw [ee] at ec; cases ec
                  | exc c f => rw [ee] at ec; cases ec
                  | ok y =>
                    rw [ee] at ec
                    have ec : ((compL (fun d => tg.set d (wipeS ρ vs)) (fun ρ => (mt ρ).nx) (fun ρ => (me ρ).nx) (ds.drop (i + 1))).bind fun ys => R.ok (y :: ys)) = .ok rest := ec
                    cases er : compL (fun d => tg.set d (wipeS ρ vs)) (fun ρ => (mt ρ).nx) (fun ρ => (me ρ).nx) (ds.drop (i + 1)) with
                    | stuck => rw [er] at ec; cases ec
                    | exc c f => rw [er] at ec; cases ec
                    | ok rest' =>
                      rw [er] at ec
                      cases ec
                      intro yv B4 H4 x4 hy4
                      have eA4 : H4 A = some (.lst acc) := x4.hh _ _ eA3
                      have nA4 : B4 A = none := x4.nb A (by rw [eA3]; exact fun z => nomatch z) nA3
                      have hln := wk.len
                      refine ⟨acc, eA4, by omega, B4, acc ++ [yv], da ++ [y], rest', ?_, nA4, upd_same, (hacc.same ((x2.bb.trans x3.bb).trans x4.bb)).append (.cons hy4 .nil), by rw [List.length_append, List.length_singleton]; omega, rfl, by rw [List.append_assoc]; exact ey⟩
                      have x04 := x03.trans x4
                      refine ⟨x04.bb, fun b o e => ?_, fun b o e => ?_, x04.nb⟩
                      · rw [upd_ne (ne_of_none e nA)]
                        exact x04.hh b o e
                      · rw [upd_ne (ne_of_none e nA4)]
                        exact x04.bh b o e
        · have e : i = ds.length := by omega
          subst e
          refine .inl ⟨wki.1 (Nat.le_refl _), ?_⟩
          rw [List.drop_length] at ec
          cases ec
          rw [List.append_nil] at ey
          subst ey
          have x0 := x.trans xi
          refine q (.ref A) (upd Bi A (.lst acc)) Hi ⟨x0.bb.trans (upd_free nA'), x0.hh, fun b o e => ?_, fun a h n => ?_⟩ (Dp.lst_new (hacc.same (upd_free nA')))
          · by_cases hb : b = A
            · rw [hb, upd_same] at e
              rw [hb, eA]; exact e
            · rw [upd_ne hb] at e
              exact x0.bh b o e
          · have hb : a ≠ A := fun z => h (by rw [z]; exact x.hh.free nA)
            rw [upd_ne hb]
            exact x0.nb a h n
section
variable {I : Info} {sc : Scope} {N : List Str} {k : Nat} {F : FT} {w : Wd} {X : Cx} {elt iter : Expr} {ifs : List Expr} {mi : M (List D)} {mt : M Bool} {me : M D} {pos : Pos}
theorem p_comp (C : CtxOk I sc N k F w X) (hc : X.calm = true) {tg : Tg} {sc' : Scope} {own : List (Str × Nat)} (hb : blkC N sc sc' own = true) (hg : tg.wf N sc' = true) (hix : ∀ i ∈ tg.ixs, i ∈ own.map (·.2)) (hi : PI X tg.py iter (tI w mi))
    (ht : ∀ (s : Shared) (H : Hp) (A : Addr) (cl : List (Str × Addr)) (fp : List Addr), PTs (X.blk s H sc' (compEnvC sc' cl A X.env) fp) ifs (tT w.cold mt))
    (he : ∀ (s : Shared) (H : Hp) (A : Addr) (cl : List (Str × Addr)) (fp : List Addr), PE (X.blk s H sc' (compEnvC sc' cl A X.env) fp) elt (tE w.cold me)) (hs : ∀ x, foldedSetIterable iter X.env x = pure x) :
    PE X (.ListComp elt [⟨tg.py, iter, ifs, 0⟩] sc' pos) (tE w fun ρ => (mi ρ).bind fun ds => (compL (fun d => tg.set d (wipeS ρ (own.map (·.2)))) (fun ρ => (mt ρ).nx) (fun ρ => (me ρ).nx) ds).bind fun ys => .ok (.list ys)) :=
  PE.imp (pe_lc hc (by rw [C.hN]; exact C.nd) hi (C.blkOk hb) (fun s H A cl fp => p_tg (C.blk hc sc' s H A cl fp) hc hg) ht he hs) fun σ H Q h => comp_read hix h
end
end CH

/-! CH 10: built-ins; every piece. -/
namespace CH
open PySem PySem.Spec PyProof.Rows L2
section
variable {X : Cx} {w : Wd} {e : Expr} {es : List Expr} {a b c : Expr} {ma mb mc : M D} {ms : M (List D)} {pos p q : Pos}
theorem p_len (hK : X.K = w.K) (hg : Gl X "len") (hm : X.mg "len" = none) (ha : PE X a (tE w ma)) (hs : starEach [a] X.env = (false, eval a X.env) :: starEach [] X.env) :
    PE X (.Call (.Name "len" p) [a] [] q) (tE w fun ρ => (ma ρ).bind fun d => R.of (biS .len d)) := by
  refine PE.imp (pe_callB (CallR.or call_len_seq call_len_str) hg hm PySem.boot_len (pa_cons ha pa_nil hs) (he := hs) (hpl := rfl)) fun σ H Q ⟨B, ρ, r, q⟩ => ?_
  have ll := lim_line
  refine tEi (tE_bind r q) fun v H' ⟨d, B', e1, x, hd, q'⟩ => ?_
  obtain ⟨z, ez, qz⟩ := ev_of q'
  rw [hK]
  cases hd with
  | lst h1 r1 =>
    cases ez
    refine .inl ⟨_, _, rfl, .inl (x.bh.seq h1), ?_⟩
    rw [r1.length]
    exact fin_same x.bh (.int _) qz
  | tup h1 r1 =>
    cases ez
    refine .inl ⟨_, _, rfl, .inr (x.bh.seqT h1), ?_⟩
    rw [r1.length]
    exact fin_same x.bh (.int _) qz
  | str y =>
    simp only [biS] at ez
    split at ez
    · cases ez
      exact .inr ⟨_, rfl, by omega, fin_same x.bh (.int _) qz⟩
    · cases ez
  | _ => cases ez
theorem p_list (hK : X.K = w.K) (hg : Gl X "list") (hm : X.mg "list" = none) (ha : PE X a (tE w ma)) (hs : starEach [a] X.env = (false, eval a X.env) :: starEach [] X.env) :
    PE X (.Call (.Name "list" p) [a] [] q) (tE w fun ρ => (ma ρ).bind fun d => R.of (biS .list d)) := by
  refine PE.imp (pe_callTy call_list_of hg hm (by decide +kernel) (pa_cons ha pa_nil hs) (he := hs) (hpl := rfl)) fun σ H Q ⟨B, ρ, r, q⟩ => ?_
  refine tEi (tE_bind r q) fun v H' ⟨d, B', e1, x, hd, q'⟩ => ?_
  obtain ⟨z, ez, qz⟩ := ev_of q'
  rw [hK]
  cases hd with
  | lst h1 r1 =>
    cases ez
    exact ⟨_, _, rfl, .inl (x.bh.seq h1), fin_lst x.bh r1 qz⟩
  | tup h1 r1 =>
    cases ez
    exact ⟨_, _, rfl, .inr (x.bh.seqT h1), fin_lst x.bh r1 qz⟩
  | _ => cases ez
theorem p_tuple (hK : X.K = w.K) (hg : Gl X "tuple") (hm : X.mg "tuple" = none) (ha : PE X a (tE w ma)) (hs : starEach [a] X.env = (false, eval a X.env) :: starEach [] X.env) :
    PE X (.Call (.Name "tuple" p) [a] [] q) (tE w fun ρ => (ma ρ).bind fun d => R.of (biS .tuple d)) := by
  refine PE.imp (pe_callTy call_tuple_of hg hm (by decide +kernel) (pa_cons ha pa_nil hs) (he := hs) (hpl := rfl)) fun σ H Q ⟨B, ρ, r, q⟩ => ?_
  refine tEi (tE_bind r q) fun v H' ⟨d, B', e1, x, hd, q'⟩ => ?_
  obtain ⟨z, ez, qz⟩ := ev_of q'
  rw [hK]
  cases hd with
  | lst h1 r1 =>
    cases ez
    exact ⟨_, _, rfl, .inl ⟨x.bh.seq h1, fin_tup x.bh r1 qz⟩⟩
  | tup h1 r1 =>
    cases ez
    exact ⟨_, _, rfl, .inr ⟨x.bh.seqT h1, fin_same x.bh (.tup h1 r1) qz⟩⟩
  | _ => cases ez
def tyN : D → String
  | .none => "NoneType"
  | .bool _ => "bool"
  | .int _ => "int"
  | .str _ => "str"
  | .list _ => "list"
  | .tuple _ => "tuple"
  | .dict _ => "dict"
def Ty.sn : Ty → String
  | .str => "str"
  | .tuple => "tuple"
  | .int => "int"
  | .bool => "bool"
  | .list => "list"
theorem ty_nm (t : Ty) : t.nm = Str.ofString t.sn := by cases t <;> rfl
theorem kit_dat (t : Ty) (d : D) (h : ∀ xs, d ≠ .dict xs) : kitB (tyN d) t.sn = some (tyS t d) := by
  cases d with
  | dict xs => exact absurd rfl (h xs)
  | none => cases t <;> decide +kernel
  | bool b => cases t <;> (show kitB "bool" _ = _) <;> (first | (show _ = some true; decide +kernel) | (show _ = some false; decide +kernel))
  | int b => cases t <;> (show kitB "int" _ = _) <;> (first | (show _ = some true; decide +kernel) | (show _ = some false; decide +kernel))
  | str b => cases t <;> (show kitB "str" _ = _) <;> (first | (show _ = some true; decide +kernel) | (show _ = some false; decide +kernel))
  | list b => cases t <;> (show kitB "list" _ = _) <;> (first | (show _ = some true; decide +kernel) | (show _ = some false; decide +kernel))
  | tuple b => cases t <;> (show kitB "tuple" _ = _) <;> (first | (show _ = some true; decide +kernel) | (show _ = some false; decide +kernel))
theorem seqL_ty {K : PySem.W.Frag} {H : Hp} {a : Addr} {xs : List V} (h : SqL K H a xs) : TyX K H (.ref a) (.type "list") := by
  rcases h with (h | ⟨o, h⟩) | ⟨o, its, n, hk, hc, _⟩
  · exact .base (.lst h)
  · exact .base (.frz h)
  · exact .kList hk hc
theorem seqT_ty {K : PySem.W.Frag} {H : Hp} {a : Addr} {xs : List V} (h : SqT K H a xs) : TyX K H (.ref a) (.type "tuple") := by
  rcases h with (h | ⟨o, h⟩) | ⟨o, its, n, hk, hc, _⟩
  · exact .base (.tup h)
  · exact .fTuple h
  · exact .kTuple hk hc
theorem dp_ty {K : PySem.W.Frag} {H : Hp} {v : V} {d : D} (h : Dp K H v d) : TyX K H v (.type (tyN d)) ∧ ∀ xs, d ≠ .dict xs := by
  cases h with
  | non => exact ⟨.base .non, fun _ z => nomatch z⟩
  | bl b => exact ⟨.base (.bl b), fun _ z => nomatch z⟩
  | int b => exact ⟨.base (.int b), fun _ z => nomatch z⟩
  | str b => exact ⟨.base (.str b), fun _ z => nomatch z⟩
  | lst h1 _ => exact ⟨seqL_ty h1, fun _ z => nomatch z⟩
  | tup h1 _ => exact ⟨seqT_ty h1, fun _ z => nomatch z⟩
theorem boot_ty (t : Ty) : bootBuiltins t.nm = some (.type t.sn) := by cases t <;> decide +kernel
theorem nm_ty1 (t : Ty) : t.nm ≠ "__name__" := by cases t <;> decide +kernel
theorem nm_ty2 (t : Ty) : (t.nm == ("__debug__" : Str)) = false := by cases t <;> decide +kernel
theorem p_isi (hK : X.K = w.K) (hg : Gl X "isinstance") (hm : X.mg "isinstance" = none) {r : Pos} (t : Ty) (hgt : Gl X t.nm) (hmt : X.mg t.nm = none) (ha : PE X a (tE w ma)) (hs : starEach [a, .Name t.nm q] X.env = (false, eval a X.env) :: starEach [.Name t.nm q] X.env) :
    PE X (.Call (.Name "isinstance" p) [a, .Name t.nm q] [] r) (tE w fun ρ => (ma ρ).bind fun d => .ok (.bool (tyS t d))) := by
  refine PE.imp (pe_callB call_isi hg hm PyProof.Rows.boot_isinstance (pa_cons ha (pa_cons (pe_bltn (v := .ty t.sn) hgt hmt (boot_ty t) rfl (nm_ty1 t) (nm_ty2 t)) pa_nil) hs) (he := hs) (hpl := rfl)) fun σ H Q ⟨B, ρ, r, q⟩ => ?_
  refine tEi (tE_bind r q) fun v H' ⟨d, B', e1, x, hd, q'⟩ => ?_
  rw [hK]
  obtain ⟨h1, h2⟩ := dp_ty (hd.same x.bh)
  exact ⟨v, .ty t.sn, _, _, _, rfl, .ty _, h1, kit_ty (kit_dat t d h2), fin_same x.bh (.bl _) q'⟩
end

/-! ### lengths -/
theorem evs_len (I : Info) (F : FT) : ∀ (es : Es) (ρ : List Sl) (ds : List D), (evs I F es).l ρ = .ok ds → ds.length = es.len
  | .nil, ρ, ds, h => by cases h; rfl
  | .cons a .nil, ρ, ds, h => by
    simp only [evs] at h
    cases e : (ev I F a).v ρ with
    | ok d => rw [e] at h; cases h; rfl
    | exc _ _ => rw [e] at h; cases h
    | stuck => rw [e] at h; cases h
  | .cons a (.cons b r), ρ, ds, h => by
    simp only [evs] at h
    cases e : (ev I F a).v ρ with
    | ok d =>
      rw [e] at h
      have h : (((evs I F (.cons b r)).l ρ).bind fun ds => R.ok (d :: ds)) = .ok ds := h
      cases e2 : (evs I F (.cons b r)).l ρ with
      | ok ds' =>
        rw [e2] at h
        cases h
        show ds'.length + 1 = _
        rw [evs_len I F (.cons b r) ρ ds' e2]
        rfl
      | exc _ _ => rw [e2] at h; cases h
      | stuck => rw [e2] at h; cases h
    | exc _ _ => rw [e] at h; cases h
    | stuck => rw [e] at h; cases h
end CH

/-! CH 10x: sorted, [::-1], join, max, an index of one's own list, calls with a keyword. -/
namespace CH
open PySem PySem.Spec PyProof.Rows L2

theorem isStr_iff {d : D} (h : isStr d = true) : ∃ s, d = .str s := by cases d <;> first | exact ⟨_, rfl⟩ | cases h
theorem isInt_iff {d : D} (h : isInt d = true) : ∃ s, d = .int s := by cases d <;> first | exact ⟨_, rfl⟩ | cases h
theorem isInts_iff {d : D} (h : isInts d = true) : ∃ s, d = .tuple s ∧ s.all isInt = true := by cases d <;> first | exact ⟨_, rfl, h⟩ | cases h
theorem alike_ints : ∀ {xs ys : List D}, xs.all isInt = true → ys.all isInt = true → PySem.W.alikeAll xs ys = true
  | [], _, _, _ => by simp [PySem.W.alikeAll]
  | _ :: _, [], _, _ => by simp [PySem.W.alikeAll]
  | x :: xs, y :: ys, h1, h2 => by
    rw [List.all_cons, Bool.and_eq_true] at h1 h2
    obtain ⟨i, rfl⟩ := isInt_iff h1.1
    obtain ⟨j, rfl⟩ := isInt_iff h2.1
    simp [PySem.W.alikeAll, PySem.W.alike, alike_ints h1.2 h2.2]
theorem sortOk_of {ds : List D} (h : sortable ds = true) : PySem.W.SortOk ds := by
  unfold sortable at h
  rw [Bool.or_eq_true, Bool.or_eq_true] at h
  rcases h with (h | h) | h
  · have h := List.all_eq_true.mp h
    refine ⟨fun d hd d' hd' => ?_, .inr fun d hd => ?_⟩
    · obtain ⟨s, rfl⟩ := isStr_iff (h d hd)
      obtain ⟨s', rfl⟩ := isStr_iff (h d' hd')
      rfl
    · obtain ⟨s, rfl⟩ := isStr_iff (h d hd)
      exact ⟨fun z => (by cases z), fun xs z => by cases z⟩
  · have h := List.all_eq_true.mp h
    refine ⟨fun d hd d' hd' => ?_, .inl fun d hd => ?_⟩
    · obtain ⟨s, rfl, hs⟩ := isInts_iff (h d hd)
      obtain ⟨s', rfl, hs'⟩ := isInts_iff (h d' hd')
      exact alike_ints hs hs'
    · obtain ⟨s, rfl, hs⟩ := isInts_iff (h d hd)
      exact ⟨_, rfl⟩
  · have h := List.all_eq_true.mp h
    refine ⟨fun d hd d' hd' => ?_, .inr fun d hd => ?_⟩
    · obtain ⟨s, rfl⟩ := isInt_iff (h d hd)
      obtain ⟨s', rfl⟩ := isInt_iff (h d' hd')
      rfl
    · obtain ⟨s, rfl⟩ := isInt_iff (h d hd)
      exact ⟨fun z => (by cases z), fun xs z => by cases z⟩
theorem depth_ints : ∀ {xs : List D}, xs.all isInt = true → PyData.depthAll xs = 0
  | [], _ => by simp [PyData.depthAll]
  | x :: xs, h => by
    rw [List.all_cons, Bool.and_eq_true] at h
    obtain ⟨i, rfl⟩ := isInt_iff h.1
    simp [PyData.depthAll, PyData.depth, depth_ints h.2]
theorem sort_depth {ds : List D} (h : sortable ds = true) : ∀ d ∈ ds, d.depth ≤ 1 := by
  unfold sortable at h
  rw [Bool.or_eq_true, Bool.or_eq_true] at h
  intro d hd
  rcases h with (h | h) | h
  · obtain ⟨s, rfl⟩ := isStr_iff (List.all_eq_true.mp h d hd)
    simp [PyData.depth]
  · obtain ⟨s, rfl, hs⟩ := isInts_iff (List.all_eq_true.mp h d hd)
    simp [PyData.depth, depth_ints hs]
  · obtain ⟨s, rfl⟩ := isInt_iff (List.all_eq_true.mp h d hd)
    simp [PyData.depth]
/-- a value that has a datum -/
def VD (K : PySem.W.Frag) (B : Hp) (u : Value) (d : D) : Prop := ∃ v, RelV v u ∧ Dp K B v d
theorem vd_each {K : PySem.W.Frag} {B : Hp} : ∀ {vs : List V} {us : List Value} {ds : List D}, Vals vs us → DpAll K B vs ds → PySem.W.EachIs (VD K B) us ds
  | _, _, _, .nil, .nil => .nil
  | _, _, _, .cons r t, .cons h s => .cons ⟨_, r, h⟩ (vd_each t s)
theorem each_vd {K : PySem.W.Frag} {B : Hp} : ∀ {us : List Value} {ds : List D}, PySem.W.EachIs (VD K B) us ds → ∃ vs, Vals vs us ∧ DpAll K B vs ds
  | _, _, .nil => ⟨[], .nil, .nil⟩
  | _, _, .cons ⟨v, r, h⟩ t => by
    obtain ⟨vs, r2, h2⟩ := each_vd t
    exact ⟨v :: vs, .cons r r2, .cons h h2⟩
theorem fin_own {K : PySem.W.Frag} {B H : Hp} {Q : VK} {vs : List V} {ds : List D} (s : Same B H) (r : DpAll K B vs ds) (q : ∀ v B' H', Ext B H B' H' → Dp K B' v (.list ds) → Q v H') {p : Addr} (np : H p = none) : Q (.ref p) (upd H p (.lst vs)) := fin_lst s r q p np
section
variable {X : Cx}
def rSrtD (K : PySem.W.Frag) (f : List D → List D) : V → Hp → VK → Prop := fun v H Q => ∃ B xs, Same B H ∧ Dp K B v (.list xs) ∧ sortable xs = true ∧ xs.length ≤ lim ∧ ∀ v' B' H', Ext B H B' H' → Dp K B' v' (.list (f xs)) → Q v' H'
theorem cr_sortD (hu : X.A.units + 500 < cLine) : CallR X (.builtin "sorted") (fun vs H Q => ∃ v, vs = [v] ∧ rSrtD X.K sortD v H Q) := by
  intro pins s σ H vs us Q I r h
  obtain ⟨v, rfl, B, xs, sb, hd, hs, hl, q⟩ := h
  cases hd with
  | @lst a vs ds h1 r1 =>
    obtain ⟨its, rv, hL, hz⟩ := I.list (sb.seq h1)
    rw [Vals.ref1 r]
    have e : PySem.W.EachIs (VD X.K B) its xs := vd_each rv r1
    have er : PySem.W.EachIs (fun u d => ∃ as, Reads s.heap u d as) its xs := e.mono fun u d ⟨v, rv, hd⟩ => Dp.reads I d v u (hd.same sb) rv
    refine PySem.W.sorted_ok hL.isList e er (sortOk_of hs) (by have := lim_line; omega) (fun d hd => by have := sort_depth hs d hd; omega) fun out hlen eo => ?_
    obtain ⟨ws, rw', dw⟩ := each_vd eo
    obtain ⟨ep, he'⟩ := PyProof.Rows.sortedAll_at s.heap its out.toArray
    have hlen2 : ws.length ≤ sizeLine := by
      rw [rw'.length, hlen]
      have := lim_line
      omega
    exact ⟨.ref _, upd H (s.heap.objs.size + 1) (.lst ws), I.laid (t' := s.toks) (fun _ _ => PyProof.Rows.sortedAll_old) (Nat.le_succ _) ⟨hlen2, out, ep, rw', he'⟩, rfl, fin_own sb dw q (I.hok.fresh (Nat.le_succ _))⟩
theorem cr_sortR (hu : X.A.units + 500 < cLine) : CallRK X (.builtin "sorted") ["reverse"] (fun vs zs H Q => ∃ v, vs = [v] ∧ zs = [.bl true] ∧ rSrtD X.K sortR v H Q) := by
  intro pins s σ H vs zs us ws Q I r rz h
  obtain ⟨v, rfl, rfl, B, xs, sb, hd, hs, hl, q⟩ := h
  cases hd with
  | @lst a vs ds h1 r1 =>
    obtain ⟨its, rv, hL, hz⟩ := I.list (sb.seq h1)
    rw [Vals.ref1 r]
    obtain ⟨u, rfl, ru⟩ := rz.one
    cases ru
    have e : PySem.W.EachIs (VD X.K B) its xs := vd_each rv r1
    have er : PySem.W.EachIs (fun u d => ∃ as, Reads s.heap u d as) its xs := e.mono fun u d ⟨v, rv, hd⟩ => Dp.reads I d v u (hd.same sb) rv
    refine PySem.W.sorted_rev_ok (b := true) hL.isList e er (sortOk_of hs) (by have := lim_line; omega) (fun d hd => by have := sort_depth hs d hd; omega) fun out hlen eo => ?_
    obtain ⟨ws, rw', dw⟩ := each_vd eo
    obtain ⟨ep, he'⟩ := PyProof.Rows.sortedAll_at s.heap its out.toArray
    have hlen2 : ws.length ≤ sizeLine := by
      rw [rw'.length, hlen]
      have := lim_line
      omega
    exact ⟨.ref _, upd H (s.heap.objs.size + 1) (.lst ws), I.laid (t' := s.toks) (fun _ _ => PyProof.Rows.sortedAll_old) (Nat.le_succ _) ⟨hlen2, out, ep, rw', he'⟩, rfl, fin_own sb dw q (I.hok.fresh (Nat.le_succ _))⟩
variable {w : Wd} {a b e : Expr} {ma mb : M D} {p q pos : Pos}
theorem p_sorted (hK : X.K = w.K) (hu : X.A.units + 500 < cLine) (hg : Gl X "sorted") (hm : X.mg "sorted" = none) (ha : PE X a (tE w ma)) (hs : starEach [a] X.env = (false, eval a X.env) :: starEach [] X.env) :
    PE X (.Call (.Name "sorted" p) [a] [] q) (tE w fun ρ => (ma ρ).bind fun d => R.of (biS .sorted d)) := by
  refine PE.imp (pe_callB (cr_sortD hu) hg hm (by decide +kernel) (pa_cons ha pa_nil hs) (he := hs) (hpl := rfl)) fun σ H Q ⟨B, ρ, r, q⟩ => ?_
  refine tEi (tE_bind r q) fun v H' ⟨d, B', e1, x, hd, q'⟩ => ?_
  obtain ⟨z, ez, qz⟩ := ev_of q'
  rw [hK]
  cases d with
  | list xs =>
    simp only [biS] at ez
    split at ez
    · rename_i hc
      cases ez
      exact ⟨v, rfl, B', xs, x.bh, hd, hc.1, hc.2, qz⟩
    · cases ez
  | _ => cases ez
theorem p_srev (hK : X.K = w.K) (hu : X.A.units + 500 < cLine) (hg : Gl X "sorted") (hm : X.mg "sorted" = none) {kp kq : Pos} (ha : PE X a (tE w ma)) (hs : starEach [a] X.env = (false, eval a X.env) :: starEach [] X.env) :
    PE X (.Call (.Name "sorted" p) [a] [⟨some "reverse", .Constant (.bool true) 0 kp, kq⟩] q) (tE w fun ρ => (ma ρ).bind fun d => R.of (sRev d)) := by
  refine PE.imp (pe_callBK (cr_sortR hu) hg hm (by decide +kernel) (pa_cons ha pa_nil hs) (pk_cons (p_cst (w := w) (c := .bool true)) pk_nil) (he := by rw [hs]; rfl) (hpl := by rw [hs]; rfl)) fun σ H Q ⟨B, ρ, r, q⟩ => ?_
  refine tEi (tE_bind r q) fun v H' ⟨d, B', e1, x, hd, q'⟩ => ?_
  obtain ⟨z, ez, qz⟩ := ev_of q'
  refine ⟨B', ρ, r.ext x, fun vb B2 H2 x2 hb => ?_⟩
  cases hb
  rw [hK]
  cases d with
  | list xs =>
    simp only [sRev] at ez
    split at ez
    · rename_i hc
      cases ez
      exact ⟨v, rfl, rfl, B2, xs, x2.bh, hd.same x2.bb, hc.1, hc.2, fun v' B3 H3 x3 => qz v' B3 H3 (x2.trans x3)⟩
    · cases ez
  | _ => cases ez
theorem p_rev (hK : X.K = w.K) {k : Nat} {p1 p2 p3 : Pos} (ha : PE X a (tE w ma)) :
    PE X (.Subscript a (.Slice none none (some (.UnaryOp .USub (.Constant (.int 1) k p1) p2)) p3) pos) (tE w fun ρ => (ma ρ).bind fun d => R.of (dRev d)) := by
  refine PE.imp (pe_revL ha) fun σ H Q ⟨B, ρ, r, q⟩ => ?_
  refine tEi (tE_bind r q) fun v H' ⟨d, B', e1, x, hd, q'⟩ => ?_
  obtain ⟨z, ez, qz⟩ := ev_of q'
  cases hd with
  | lst h1 r1 =>
    cases ez
    exact ⟨_, _, rfl, hK ▸ x.bh.seq h1, fin_lst x.bh r1.reverse qz⟩
  | _ => cases ez
theorem strs_of {K : PySem.W.Frag} {B : Hp} : ∀ {vs : List V} {ds : List D} {zs : List Str}, DpAll K B vs ds → strsOf ds = some zs → vs = zs.map V.str
  | _, _, _, .nil, e => by cases e; rfl
  | _, _, _, .cons h t, e => by
    cases h with
    | str s =>
      simp only [strsOf] at e
      rename_i ds'
      cases e2 : strsOf ds' with
      | none => rw [e2] at e; cases e
      | some l =>
        rw [e2] at e
        cases e
        rw [strs_of t e2]; rfl
    | _ => cases e
theorem p_join (hK : X.K = w.K) {apos : Pos} (ha : PE X a (tE w ma)) (hb : PE X b (tE w mb)) (hs : starEach [b] X.env = [(false, eval b X.env)]) (hbase : attributeBase a "join" X.env (eval a X.env) = eval a X.env) (hline : (apos.endLine == pos.line) = true) (hA : ∀ ρ d, ma ρ = .ok d → ∃ s, d = .str s) :
    PE X (.Call (.Attribute a "join" apos) [b] [] pos) (tE w fun ρ => (ma ρ).bind fun d => (mb ρ).bind fun e => R.of (joinS d e)) := by
  refine PE.imp (pe_join ha hb hs hbase hline) fun σ H Q ⟨B, ρ, r, q⟩ => ?_
  have ll : (lim : Nat) ≤ 16777216 := by decide
  refine tEi (tE_bind r q) fun v H' ⟨d, B', e1, x, hd, q'⟩ => ?_
  obtain ⟨s, rfl⟩ := hA _ _ e1
  cases hd
  refine ⟨⟨s, rfl⟩, tEi (tE_bind (r.ext x) q') fun v2 H2 ⟨d2, B2, e2, x2, hd2, q2⟩ => ?_⟩
  obtain ⟨z, ez, qz⟩ := ev_of q2
  cases hd2 with
  | lst h1 r1 =>
    simp only [joinS] at ez
    split at ez
    · rename_i zs hz
      split at ez
      · rename_i hc
        cases ez
        have e3 := strs_of r1 hz
        subst e3
        refine ⟨s, _, zs, rfl, rfl, .inl (hK ▸ x2.bh.seq h1), ?_, fin_same x2.bh (.str _) qz⟩
        rw [Nat.mul_comm] at hc
        omega
      · cases ez
    · cases ez
  | _ => cases ez
theorem p_ixo (hK : X.K = w.K) {i : Nat} {x : Str} {me : M D} (hN : X.N[i]? = some x) (hv : Vis X.env.scope x) (h1 : (x == ("__debug__" : Str)) = false) (h2 : (x == ("__classdict__" : Str)) = false) (he : PE X e (tE w me)) (hs : PlainIx e) :
    PE X (.Subscript (.Name x p) e pos) (tE w fun ρ => match ρ[i]? with | some (.own ds) => (me ρ).bind fun d => R.of (dIx (.list ds) d) | _ => .stuck) := by
  refine PE.imp (pe_ix ix_list (pe_var hN hv h1 h2) he hs) fun σ H Q ⟨B, ρ, r, q⟩ => ?_
  dsimp only at q
  split at q
  · rename_i ds hd
    obtain ⟨a, xs, hv, hH, hB, hp⟩ := r.own i ds hd
    refine ⟨.ref a, hv, tEi (tE_bind r q) fun v H' ⟨d, B', e1, x, hd', q'⟩ => ?_⟩
    obtain ⟨z, ez, qz⟩ := ev_of q'
    cases hd' with
    | int j =>
      obtain ⟨w', hw, hz⟩ := atI_dp (hp.same x.bb) ez
      exact ⟨a, xs, j, w', rfl, rfl, .inl (.inl (x.hh _ _ hH)), hw, fin_same x.bh hz qz⟩
    | _ => cases ez
  · exact q.elim
theorem ints_of {K : PySem.W.Frag} {B : Hp} : ∀ {vs : List V} {ds : List D} {zs : List Int}, DpAll K B vs ds → CH.intsOf ds = some zs → vs = zs.map V.int
  | _, _, _, .nil, e => by cases e; rfl
  | _, _, _, .cons h t, e => by
    cases h with
    | int s =>
      simp only [CH.intsOf] at e
      rename_i ds'
      cases e2 : CH.intsOf ds' with
      | none => rw [e2] at e; cases e
      | some l =>
        rw [e2] at e
        cases e
        rw [ints_of t e2]; rfl
    | _ => cases e
theorem fold_max : ∀ (l : List Int) (i m : Int), (m = i ∨ m ∈ l) → i ≤ m → (∀ y ∈ l, y ≤ m) → l.foldl max i = m
  | [], i, m, h, h1, _ => by
    rcases h with h | h
    · exact h.symm
    · cases h
  | j :: l, i, m, h, h1, h2 => by
    rw [List.foldl_cons]
    have hj := h2 j (List.mem_cons_self ..)
    refine fold_max l (max i j) m ?_ (by omega) fun y hy => h2 y (List.mem_cons_of_mem _ hy)
    rcases h with h | h
    · exact .inl (by omega)
    · rcases List.mem_cons.mp h with h | h
      · exact .inl (by omega)
      · exact .inr h
theorem p_max (hK : X.K = w.K) (hc : X.calm = true) (hg : Gl X "max") (hm : X.mg "max" = none) (ha : PE X a (tE w ma)) (hs : starEach [a] X.env = (false, eval a X.env) :: starEach [] X.env) :
    PE X (.Call (.Name "max" p) [a] [] q) (tE w fun ρ => (ma ρ).bind fun d => R.of (biS .max d)) := by
  refine PE.imp (pe_callB (cr_max hc) hg hm (by decide +kernel) (pa_cons ha pa_nil hs) (he := hs) (hpl := rfl)) fun σ H Q ⟨B, ρ, r, q⟩ => ?_
  refine tEi (tE_bind r q) fun v H' ⟨d, B', e1, x, hd, q'⟩ => ?_
  obtain ⟨z, ez, qz⟩ := ev_of q'
  rw [hK]
  cases hd with
  | lst h1 r1 =>
    simp only [biS] at ez
    split at ez
    · rename_i d0 ds0 is hi
      cases ez
      have e3 := ints_of r1 hi
      subst e3
      refine ⟨_, is, rfl, x.bh.seq h1, ?_, fun m hm1 hm2 => ?_⟩
      · have l1 := r1.length
        rw [List.length_map] at l1
        rw [l1]
        exact Nat.succ_pos _
      · have e4 : maxI is = m := by
          cases is with
          | nil => cases hm1
          | cons i l =>
            refine fold_max l i m ?_ (hm2 i (List.mem_cons_self ..)) fun y hy => hm2 y (List.mem_cons_of_mem _ hy)
            exact List.mem_cons.mp hm1
        rw [e4] at qz
        exact fin_same x.bh (.int m) qz
    · cases ez
  | _ => cases ez
theorem p_max2 (hK : X.K = w.K) (hc : X.calm = true) (hg : Gl X "max") (hm : X.mg "max" = none) (ha : PE X a (tE w ma)) (hb : PE X b (tE w mb)) (hs : starEach [a, b] X.env = (false, eval a X.env) :: starEach [b] X.env) (hs2 : starEach [b] X.env = [(false, eval b X.env)]) :
    PE X (.Call (.Name "max" p) [a, b] [] q) (tE w fun ρ => (ma ρ).bind fun d => (mb ρ).bind fun e => R.of (dMax2 d e)) := by
  refine PE.imp (pe_callB (call_max2 hc) hg hm (by decide +kernel) (pa_cons ha (pa_cons hb pa_nil hs2) hs) (he := hs) (hpl := by rw [hs2]; rfl)) fun σ H Q ⟨B, ρ, r, q⟩ => ?_
  refine tEi (tE_bind r q) fun v H' ⟨d, B', e1, x, hd, q'⟩ => ?_
  refine tEi (tE_bind (r.ext x) q') fun v2 H2 ⟨d2, B2, e2, x2, hd2, q2⟩ => ?_
  obtain ⟨z, ez, qz⟩ := ev_of q2
  cases hd with
  | int i =>
    cases hd2 with
    | int j =>
      cases ez
      refine ⟨i, j, rfl, ?_⟩
      have e : (if j > i then j else i) = max i j := by split <;> omega
      rw [e]
      exact fin_same x2.bh (.int _) qz
    | _ => cases ez
  | _ => cases hd2 <;> cases ez
/-! ### a call with a keyword -/
def tCallNS (n m : Nat) (sp : Sp) (gV : List V → List V → List V) (E : L2.St → XK) (t tk : TA) : TE := fun σ H Q => t σ H fun vs H1 => tk σ H1 fun zs H2 => vs.length = n ∧ zs.length = m ∧ sp (gV vs zs) H2 Q (E σ)
variable {CX : CXT} {k n : Nat} {f : Addr} {fd : FuncData} {ps ks : List Str} {sp : Sp} {E : L2.St → XK} {x : Str} {es : List Expr} {kws : List Keyword} {t tk : TA} {g : List Value → List Value → List Value} {gV : List V → List V → List V}
theorem pe_callNS (F : FnOk X.prog X.w X.K X.mg X.base CX k f fd ps sp) (hr : Room k X.A) (hg : Gl X x) (hm : X.mg x = some (.ref f)) (hk : PySem.W.keepIn X.K (.ref f) = true) (hb : KBn X.K fd ps n ks g gV) (hx : ∀ σ, PassesAt CX X σ (E σ))
    (ha : PA X (e :: es) t) (hkw : PK X kws tk) (hdb : (x == ("__debug__" : Str)) = false) (he : starEach (e :: es) X.env = (false, eval e X.env) :: starEach es X.env) (hpl0 : (backTo pos (starEach es X.env)).any (·.1) = false)
    (hall : (backToKw pos (keywordEach kws X.env)).all (·.1.isSome) = true := by rfl) (hks : (backToKw pos (keywordEach kws X.env)).filterMap (·.1) = ks := by rfl) (hnone : (backToKw pos (keywordEach kws X.env)).any (·.1.isNone) = false := by rfl) :
    PE X (.Call (.Name x p) (e :: es) kws pos) (tCallNS n ks.length sp gV E t tk) := by
  have hpl : ((backTo pos (starEach (e :: es) X.env)).any (·.1) || (backToKw pos (keywordEach kws X.env)).any (·.1.isNone)) = false := by
    rw [hnone, Bool.or_false, he]
    show (false || (backTo pos (starEach es X.env)).any (·.1)) = false
    rw [hpl0]; rfl
  refine ⟨fun pins s σ H Q I h => ?_⟩
  refine wpAny_Call_Name_kw (ld_glob I hg hm ?_ hdb)
  refine PySem.W.callWith_KW (h₀ := X.base) I.ok.mod.kin hk hall (thn (ha.run pos pins s σ H _ I h) fun us s1 ⟨vs, H1, I1, r, q⟩ => ?_) hpl he
  refine thn (hkw.run pos pins s1 σ H1 _ I1 q) fun ws s2 ⟨zs, H2, I2, rz, l1, l2, q2⟩ => ⟨I2.kIn, ?_⟩
  rw [hks]
  have r2 := hb.rel r rz
  refine wpAny_call (codeAny_mono (F.run X.A X.stack s2 H2 ⟨us, ks.zip ws⟩ (g us ws) (gV vs zs) Q (E σ) hr I2.env0 (hb.to s2 us ws I2.kIn (r.length.symm.trans l1) (rz.length.symm.trans l2)) r2 q2) fun r s' hq => ?_)
  cases r with
  | error e => exact hx σ pins H2 s2 e s' I2 hq
  | ok fl =>
    cases fl with
    | ret u => exact I2.after hq
    | next => exact False.elim hq
    | brk => exact False.elim hq
    | cont => exact False.elim hq
theorem callk_read {F : FT} {f n np : Nat} {ms : M (List D)} {md : M D} (hl : ∀ ρ ds, ms ρ = .ok ds → ds.length = n) (hn : n + 1 = np) (hgv : ∀ vs z, gV vs [z] = vs ++ [z])
    {σ : L2.St} {H : Hp} {Q : VK} (h : tE w (fun ρ => (ms ρ).bind fun ds => (md ρ).bind fun d => F f (ds ++ [d])) σ H Q) : tCallNS (np - 1) 1 (spD w.K w.ct np (F f)) gV (fun σ cls d H' => w.W cls d σ H') (tA w ms) (tCons (tE w md) tNil) σ H Q := by
  obtain ⟨B, ρ, r, q⟩ := h
  refine tAi (tA_bind r q) fun vs H' ⟨ds, B', e1, x, hds, q'⟩ => ?_
  have e2 := hl _ _ e1
  refine tEi (tE_bind (r.ext x) q') fun v2 H2 ⟨d2, B2, e3, x2, hd2, q2⟩ => ?_
  refine ⟨by rw [hds.length, e2]; omega, rfl, ?_⟩
  rw [hgv]
  exact sp_of (by rw [List.length_append, e2, List.length_singleton]; exact hn) x2.bh ((hds.same x2.bb).append (.cons hd2 .nil)) q2
end
end CH

/-! CH Z2: a set made of a list of texts; its members, sorted; how many. -/
namespace CH
open PySem PySem.Spec PyProof.Rows L2 PySem.Froz

/-! ### the payload stays walkable -/
theorem addTx_ris {h : Int} {v : Value} {D : SD} (r : Ris D.2.2.place.toList) : Ris (addTx h v D).2.2.place.toList := by
  have h1 := layNew_ris D.2.2 D.1 h v r
  unfold addTx tailTx
  by_cases c : (layNew D.2.2 D.1 h v).2.1.plain = true
  · rw [if_pos c]
    split
    · exact relayAll_ris _ _ _
    · exact h1
  · rw [if_neg c]
    split
    · exact relayAll_ris _ _ _
    · exact h1
theorem addTx_led {h : Int} {v : Value} {D : SD} : (addTx h v D).2.2.led = D.2.2.led := by
  have h1 := layNew_led D.2.2 D.1 h v
  unfold addTx tailTx
  by_cases c : (layNew D.2.2 D.1 h v).2.1.plain = true
  · rw [if_pos c]
    split
    · exact (relayAll_led _ _ _).trans h1
    · exact h1
  · rw [if_neg c]
    split
    · exact (relayAll_led _ _ _).trans h1
    · exact h1

/-- at a stands a set of just the texts l, in some order -/
structure TxS (P : Program) (w : World) (h : Heap) (a : Addr) (l : List Str) : Prop where
  ex : ∃ D : SD, h.get? a = some (sObj "set" D) ∧ TxOk P w D l ∧ Ris D.2.2.place.toList ∧ (w.params.followText "set-order" = true ∨ D.2.2.led = true)
  nd : l.Nodup
theorem TxS.keep {P : Program} {w : World} {h h' : Heap} {a : Addr} {l : List Str} (R : TxS P w h a l) (k : ∀ o, h.get? a = some o → h'.get? a = some o) : TxS P w h' a l := by
  obtain ⟨⟨D, h1, r⟩, n⟩ := R
  exact ⟨⟨D, k _ h1, r⟩, n⟩
theorem txs_new {P : Program} {w : World} {h : Heap} {a : Addr} (ho : h.get? a = some { cls := .type "set", dict := none, data := .set #[] 0 (.fresh 0 0 (!w.params.followText "set-order")) }) : TxS P w h a [] := by
  refine ⟨⟨(#[], 0, .fresh 0 0 (!w.params.followText "set-order")), ho, TxOk.nil (by rfl), List.Pairwise.nil, ?_⟩, List.nodup_nil⟩
  show _ ∨ (!w.params.followText "set-order") = true
  cases w.params.followText "set-order"
  · exact .inr rfl
  · exact .inl rfl

section
variable {P : Program} {w : World} {A : Around} {E : Value → Shared → Prop} {s : Shared}
/-- a text goes in -/
theorem txs_add {a : Addr} {l : List Str} {k : Str} {u : Tok} {Q : Bool → Shared → Prop} (R : TxS P w s.heap a l) (hb : l.length + 1 < scanBound)
    (hQ : ∀ (h' : Heap) (l' : List Str) (b : Bool), Heap.SameBut a s.heap h' → TxS P w h' a l' → (∀ x, x ∈ l' ↔ x = k ∨ x ∈ l) → l'.length ≤ l.length + 1 → Q b { s with heap := h' }) :
    wpAny (model P w) A (setAddHashed a (.str k u) (hashStr w k)) Q E s := by
  obtain ⟨⟨D, ho, T, ri, le⟩, nd⟩ := R
  by_cases hk : k ∈ l
  · obtain ⟨es, ep, t⟩ := D
    have hd : (sObj "set" (es, ep, t)).data = .set es ep t := rfl
    have e1 : es.size = l.length := T.sz
    have el : ElemsOf (strKind P w) es.toList := T.el
    obtain ⟨e, he, hi⟩ := (T.mem k).mp hk
    cases hr : List.findIdx? (fun e => (strKind P w).is k e.2) es.toList with
    | none =>
      have z := List.findIdx?_eq_none_iff.mp hr e he
      rw [hi] at z
      cases z
    | some j =>
      unfold setAddHashed setAddHashedIn
      refine wpAny_holding (wpAny_bind (wpAny_setState_of ho hd T.fit ?_))
      dsimp only
      rw [byScan_of rfl (by rw [e1]; omega) el]
      simp only [↓reduceIte]
      unfold setAddByScan
      refine wpAny_bind (wpAny_bind (wpAny_rule (wpAny_bind (wpAny_setScan_of (knd := strKind P w) (k := k) (Froz.is_str k u) ho hd T.fit el ?_))))
      rw [hr]
      exact wpAny_pure (wpAny_pure (hQ s.heap l _ (Heap.SameBut.refl a s.heap) ⟨⟨_, ho, T, ri, le⟩, nd⟩ (fun x => ⟨.inr, fun z => z.elim (fun z => z ▸ hk) id⟩) (Nat.le_succ _)))
  · refine add_x ho T hk hb ?_
    refine hQ _ (k :: l) true (Heap.SameBut.update s.heap a _) ⟨⟨_, get_upd _ ho rfl, add_ok u T, addTx_ris ri, ?_⟩, List.nodup_cons.mpr ⟨hk, nd⟩⟩ (fun x => List.mem_cons) (Nat.le_refl _)
    rw [addTx_led]; exact le
/-- the texts of what is walked, one behind the other -/
theorem txs_update {I : Addr} {fp wr : List Addr} {G : Array GenState → Array GenState → Prop} {n : Nat} {Pv : Nat → Value → Prop} {St : Nat → Shared → Prop} {R : Result → Shared → Prop}
    (W : WalksS P w A.in1 I fp wr G n Pv St) (S : Addr) (hSf : S ∉ fp) (xs : List Str) (hn : n = xs.length) (hb : xs.length + 1 < scanBound) (hval : ∀ i v, Pv i v → ∃ x t, xs[i]? = some x ∧ v = .str x t) :
    ∀ (m i : Nat) (s : Shared), n - i = m → i ≤ n → St i s → (∃ l : List Str, l.length ≤ i ∧ (∀ x, x ∈ l ↔ x ∈ xs.take i) ∧ TxS P w s.heap S l) →
      (∀ (s' : Shared) (l : List Str), Moved (S :: wr) G s s' → l.length ≤ n → (∀ x, x ∈ l ↔ x ∈ xs) → TxS P w s'.heap S l → R (.ok (.ret .none)) s') →
      codeAny (model P w) A (.builtin "set.update.loop" ⟨[.ref S, .ref I], []⟩) R s := by
  have nw : S ∉ wr := fun z => hSf (W.sub _ z)
  have up : ∀ b ∈ wr, b ∈ S :: wr := fun b z => List.mem_cons_of_mem _ z
  intro m
  induction m with
  | zero =>
    intro i s e1 hi hst ⟨l, l1, l2, l3⟩ hR
    obtain rfl : i = n := by omega
    refine codeAny_builtin F.entry_set_update_loop ?_
    rw [Around.under_plainId F.plain_set_update_loop _]
    refine wpAny_bind (m := pyNext (.ref I)) (W.done s _ _ hst fun s' mv => ?_)
    refine wpAny_pure (hR s' l (mv.mono up) l1 (fun x => ?_) (l3.keep fun o z => mv.heap S o nw z))
    rw [l2, List.take_of_length_le (by omega)]
  | succ m ih =>
    intro i s e1 hi hst ⟨l, l1, l2, l3⟩ hR
    have il : i < n := by omega
    refine codeAny_builtin F.entry_set_update_loop ?_
    rw [Around.under_plainId F.plain_set_update_loop _]
    refine wpAny_bind (m := pyNext (.ref I)) (W.item i s _ _ il hst fun v s' hP st2 mv => ?_)
    obtain ⟨x, t, hx, rfl⟩ := hval i v hP
    have R2 : TxS P w s'.heap S l := l3.keep fun o z => mv.heap S o nw z
    show wpAny _ A.in1 (holding [Value.str x t] (setAdd S (.str x t)) >>= _) _ _ s'
    refine wpAny_bind (wpAny_holding ?_)
    unfold setAdd
    refine wpAny_holding (wpAny_bind ((strKind P w).pyHash (k := x) (Froz.is_str x t) ?_))
    refine txs_add (s := { s' with toks := s'.toks + 1 }) R2 (by omega) fun h' l' b sb R3 q1 q2 => ?_
    refine wpAny_pure ⟨plainId_quiet F.plain_set_update_loop _, ih (i + 1) _ (by omega) il (W.frame _ s' _ _ st2 (Nat.le_succ _) fun b hb o z => ?_) ⟨l', by omega, fun y => ?_, R3⟩ fun s3 l3 mv3 z1 z2 z3 => ?_⟩
    · rw [sb.2 b (fun q : b = S => hSf (by rw [← q]; exact hb))]; exact z
    · rw [q1, l2, List.take_add_one, hx, List.mem_append]
      simp only [Option.toList_some, List.mem_singleton]
      exact Or.comm
    · refine hR s3 l3 (Moved.trans W.gtrans ((mv.mono up).then_heap (Nat.le_succ _) fun b o hb z => ?_) mv3) z1 z2 z3
      rw [sb.2 b (fun q : b = S => hb (by rw [q]; exact List.mem_cons_self))]; exact z
end

/-- a set as it is made -/
abbrev newS (w : World) : Obj := { cls := .type "set", dict := none, data := .set #[] 0 (.fresh 0 0 (!w.params.followText "set-order")) }
theorem strs_get : ∀ {us : List Value} {xs : List Str}, StrsAre us xs → ∀ (i : Nat) (v : Value), us[i]? = some v → ∃ x t, xs[i]? = some x ∧ v = .str x t
  | _, _, .nil, i, v, h => by simp at h
  | _, _, .cons n t hr, 0, v, h => by simp at h; exact ⟨n, t, rfl, h.symm⟩
  | _, _, .cons n t hr, i + 1, v, h => by
    rw [List.getElem?_cons_succ] at h ⊢
    exact strs_get hr i v h
section
variable {P : Program} {w : World} {A : Around} {E : Value → Shared → Prop} {s : Shared}
set_option maxHeartbeats 3200000 in
/-- set(xs), xs a list of texts -/
theorem call_set_strs {l : Addr} {items : Array Value} (xs : List Str) {Q : Value → Shared → Prop} (hh : A.handled = none) (hl : s.heap.IsList l items) (hi : StrsAre items.toList xs) (hb : xs.length + 1 < scanBound)
    (h : ∀ (h' : Heap) (tk : Nat) (m : List Str), TxS P w h' s.heap.objs.size m → (∀ x, x ∈ m ↔ x ∈ xs) → m.length ≤ xs.length → (∀ b o, s.heap.get? b = some o → h'.get? b = some o) → Q (.ref s.heap.objs.size) { s with heap := h', toks := tk }) :
    wpAny (model P w) A (call (.type "set") [.ref l]) Q E s := by
  have isz : items.size = xs.length := by
    have q := StrsAre.len_eq hi
    rw [Array.length_toList] at q
    exact q
  obtain ⟨c, tl, hmro⟩ := F.called_set.mro
  have g1 := F.called_set.made
  have g2 := F.called_set.sub
  refine wpAny_call (codeAny_of_tree ?_)
  show wpAny _ _ (callAny (.type "set") _) _ _ _
  refine wpAny_pure ⟨Code.quiet_builtin _ (by decide +kernel), codeAny_builtin F.entry_type_call ?_⟩
  rw [Around.under_plain (weight_type_call_type "set" [.ref l] []) rfl]
  have g3 := F.called_set.notType
  have g4 := F.called_set.canCreate
  have g5 := F.typeCall_set_1 (.ref l)
  repeat (any_goals (first | assumption | wp_step))
  refine codeAny_mono (code_set_led1 (.ref l) (E := E) (Q₁ := fun obj s₁ => obj = .ref s.heap.objs.size ∧ s₁ = { s with heap := s.heap.push (newS w) }) ⟨rfl, rfl⟩) fun r s₁ hr => ?_
  cases r with
  | error e => exact hr
  | ok fl =>
    cases fl with
    | ret obj =>
      obtain ⟨rfl, rfl⟩ := hr
      have hS : (s.heap.push (newS w)).get? s.heap.objs.size = some (newS w) := Heap.get?_push_size _ rfl
      have hT : Shared.TypeIs { s with heap := s.heap.push (newS w) } (.ref s.heap.objs.size) "set" := ⟨_, hS, rfl⟩
      have g6 := F.called_set.init.lookup
      have g7 := F.called_set.init.bind (.ref s.heap.objs.size)
      repeat (any_goals (first | assumption | wp_step))
      refine codeAny_mono (codeAny_call_builtin (R := wants (fun r s₂ => r = .none ∧ ∃ (h' : Heap) (tk : Nat) (m : List Str), s₂ = { s with heap := h', toks := tk } ∧ TxS P w h' s.heap.objs.size m ∧ (∀ x, x ∈ m ↔ x ∈ xs) ∧ m.length ≤ xs.length ∧
          ∀ b o, s.heap.get? b = some o → h'.get? b = some o) E) F.called_set.init.plain F.entry_set_init (check_set_init_1 hT ?_)) fun r₂ s₂ hr₂ => ?_
      · obtain ⟨⟨ocls, odict, odata, oslots⟩, hol, hcl, nl, hdl⟩ := hl
        simp only at hcl hdl
        subst hcl; subst hdl
        have hol' := Heap.get?_push_of_some (newS w) hol
        have g8 := F.sub_list_set
        have g9 := F.sub_list_frozenset
        have ga : (Value.type "list" == Value.type "dict") = false := by decide
        have hl1 : (s.heap.push (newS w)).IsList l items := ⟨_, hol', rfl, nl, rfl⟩
        unfold Builtin.«set.__init__» noKeywords Builtin.Frozenset.updateFrom
        generalize hPI : pyIter = PI
        wp_walk
        subst hPI
        refine wpAny_pyIter_list hl1 ?_
        refine wpAny_bind (wpAny_runValue ?_)
        have ls := Heap.lt_size hol
        have hh3 : A.in1.in1.in1.handled = none := by simp [hh]
        have nI : l ≠ (s.heap.push (newS w)).objs.size := by
          rw [Heap.size_push]; exact Nat.ne_of_lt (Nat.lt_succ_of_lt ls)
        have nS : s.heap.objs.size ∉ [(s.heap.push (newS w)).objs.size, l] := by
          rw [Heap.size_push]; simp only [List.mem_cons, List.not_mem_nil, or_false, not_or]
          exact ⟨Nat.ne_of_lt (Nat.lt_succ_self _), Nat.ne_of_gt ls⟩
        refine txs_update ((Walks.list hh3 _ l nI items).toS) s.heap.objs.size nS xs isz hb (fun i v hv => strs_get hi i v (by rw [Array.getElem?_toList]; exact hv)) (items.size - 0) 0 _ (by omega) (Nat.zero_le _)
          ⟨⟨_, Heap.get?_push_size _ rfl, rfl, rfl⟩, (hl1.push _)⟩ ?start ?fin
        case start =>
          exact ⟨[], Nat.le_refl 0, fun x => by simp, txs_new (Heap.get?_push_of_some _ hS)⟩
        case fin =>
          intro s' m mv hm hx hR
          obtain ⟨h', g', d', tk', os'⟩ := s'
          obtain rfl : g' = s.gens := mv.gens
          obtain rfl : d' = s.drawn := mv.drawn
          obtain rfl : os' = s.os := mv.os
          refine wpAny_pure ?_
          show wpAny _ _ (ret Value.none) _ _ _
          refine wpAny_pure ⟨rfl, h', tk', m, rfl, hR, hx, by omega, fun b o e => ?_⟩
          have lb := Heap.lt_size e
          refine mv.heap b o ?_ (Heap.get?_push_of_some _ (Heap.get?_push_of_some _ e))
          rw [Heap.size_push]
          simp only [List.mem_cons, List.not_mem_nil, or_false, not_or]
          exact ⟨Nat.ne_of_lt lb, Nat.ne_of_lt (Nat.lt_succ_of_lt lb)⟩
      · cases r₂ with
        | error e => exact hr₂
        | ok fl₂ =>
          cases fl₂ with
          | ret r =>
            obtain ⟨rfl, h', tk, m, rfl, z1, z2, z3, z4⟩ := hr₂
            repeat (any_goals (first | assumption | wp_step))
            exact h _ _ _ z1 z2 z3 z4
          | _ => exact hr₂.elim
    | _ => exact hr.elim
/-- the texts of a set's members -/
def txOf (v : Value) : Str := match v with
  | .str x _ => x
  | _ => Str.empty
theorem nodup_perm : ∀ {l m : List Str}, l.Nodup → (∀ x ∈ l, x ∈ m) → m.length ≤ l.length → m.Perm l
  | [], m, _, _, h => by
    have : m = [] := List.length_eq_zero_iff.mp (Nat.le_zero.mp h)
    rw [this]
  | a :: l, m, hn, hs, h => by
    obtain ⟨h1, h2⟩ := List.nodup_cons.mp hn
    have ha : a ∈ m := hs a List.mem_cons_self
    have pm : m.Perm (a :: m.erase a) := List.perm_cons_erase ha
    have hl : m.length = (m.erase a).length + 1 := pm.length_eq
    rw [List.length_cons] at h
    have ih := nodup_perm (l := l) (m := m.erase a) h2 (fun x hx => by
      have hx2 := hs x (List.mem_cons_of_mem _ hx)
      rcases List.mem_cons.mp (pm.mem_iff.mp hx2) with e | e
      · exact absurd (e ▸ hx) h1
      · exact e) (by omega)
    exact pm.trans (ih.cons a)
theorem strsAre_map : ∀ (vs : List Value), (∀ v ∈ vs, ∃ x t, v = Value.str x t) → StrsAre vs (vs.map txOf)
  | [], _ => .nil
  | v :: vs, h => by
    obtain ⟨x, t, rfl⟩ := h v List.mem_cons_self
    exact .cons x t (strsAre_map vs fun u hu => h u (List.mem_cons_of_mem _ hu))
theorem txok_str {D : SD} {l : List Str} (T : TxOk P w D l) : ∀ v ∈ D.1.toList.map (·.2), ∃ x t, v = Value.str x t := by
  intro v hv
  obtain ⟨e, he, rfl⟩ := List.mem_map.mp hv
  obtain ⟨⟨k, hk, _⟩, _⟩ := T.el e he
  have hk : Value.isStrOf k e.2 = true := hk
  cases h : e.2 with
  | str x t => exact ⟨x, t, rfl⟩
  | _ => rw [h] at hk; simp [Value.isStrOf] at hk
theorem txok_perm {D : SD} {l : List Str} (T : TxOk P w D l) (nd : l.Nodup) : ((D.1.toList.map (·.2)).map txOf).Perm l := by
  refine nodup_perm nd (fun x hx => ?_) ?_
  · obtain ⟨e, he, hi⟩ := (T.mem x).mp hx
    refine List.mem_map.mpr ⟨e.2, List.mem_map.mpr ⟨e, he, rfl⟩, ?_⟩
    have hi : Value.isStrOf x e.2 = true := hi
    cases h : e.2 with
    | str y t =>
      rw [h] at hi
      simp [Value.isStrOf] at hi
      simp [txOf, hi]
    | _ => rw [h] at hi; simp [Value.isStrOf] at hi
  · rw [List.length_map, List.length_map, Array.length_toList]
    exact Nat.le_of_eq T.sz
/-- sorted(a) -/
theorem sorted_txs {a : Addr} {m : List Str} {Q : Value → Shared → Prop} (R : TxS P w s.heap a m) (hh : A.handled = none) (hb : m.length < scanBound) (hu : A.units + 4 < cLine)
    (hQ : ∀ (s' : Shared) (p : Addr) (out : Array Value) (c : Nat) (xs : List Str), (∀ b o, s.heap.get? b = some o → s'.heap.get? b = some o) → s'.gens = s.gens → s'.os = s.os → s.heap.objs.size ≤ p →
      s'.heap.get? p = some (seqObj "list" out c) → xs.Perm m → PySem.W.EachIs (fun v d => ∃ x t, v = Value.str x t ∧ d = PyData.str x) out.toList ((xs.map PyData.str).mergeSort (PySem.W.dataLe false id)) → Q (.ref p) s') :
    wpAny (model P w) A (call (.builtin "sorted") [.ref a]) Q E s := by
  obtain ⟨⟨D, ho, T, ri, le⟩, nd⟩ := R
  have sz : D.1.size = m.length := T.sz
  refine Calls.call_function_entry kind_sorted plain_sorted entry_sorted (args_sorted1 _) ?_
  unfold Builtin.«sorted»
  refine wpAny_bind (m := checkCount "sorted" 1 1 _) (wpAny_pure ?_)
  refine wpAny_bind (collect_set (A := A.in1) (ep := D.2.1) hh ⟨_, ho, rfl, rfl⟩ T.fit (by rw [sz]; exact hb) ri le fun s1 vs k1 hz g1 o1 pm => ?_)
  have hvl : vs.length = m.length := by rw [pm.length_eq, List.length_map, Array.length_toList]; exact sz
  have hstr : ∀ v ∈ vs, ∃ x t, v = Value.str x t := fun v hv => txok_str T v (pm.mem_iff.mp hv)
  have hpm : (vs.map txOf).Perm m := (pm.map txOf).trans (txok_perm T nd)
  have hL : vs.length ≤ sizeLine := by rw [hvl]; exact fits_of_scanBound hb
  refine wpAny_bind (wpAny_newList ?_ hL)
  have hoL : (s1.heap.push (seqObj "list" vs.toArray 0)).get? s1.heap.objs.size = some (seqObj "list" vs.toArray 0) := Heap.get?_push_size _ rfl
  have each : ∀ (us : List Value), (∀ v ∈ us, ∃ x t, v = Value.str x t) → PySem.W.EachIs (fun v d => ∃ x t, v = Value.str x t ∧ d = PyData.str x) us ((us.map txOf).map PyData.str) := fun us => by
    induction us with
    | nil => intro _; exact .nil
    | cons v us ih =>
      intro h
      obtain ⟨x, t, rfl⟩ := h v List.mem_cons_self
      exact .cons ⟨x, t, rfl, rfl⟩ (ih fun u hu => h u (List.mem_cons_of_mem _ hu))
  have e1 := each vs hstr
  have er : ∀ h' : Heap, PySem.W.EachIs (fun v d => ∃ as, Reads h' v d as) vs ((vs.map txOf).map PyData.str) := fun h' => e1.mono fun v d ⟨x, t, h1, h2⟩ => by
    subst h1; subst h2
    exact ⟨_, .str x t⟩
  have hal : PySem.W.AllAlike ((vs.map txOf).map PyData.str) := fun d hd d' hd' => by
    obtain ⟨x, _, rfl⟩ := List.mem_map.mp hd
    obtain ⟨y, _, rfl⟩ := List.mem_map.mp hd'
    rfl
  have hk : PySem.W.Sortable ((vs.map txOf).map PyData.str) := .inr fun d hd => by
    obtain ⟨x, _, rfl⟩ := List.mem_map.mp hd
    exact ⟨fun z => (by cases z), fun xs z => by cases z⟩
  have hdp : ∀ d, d ∈ (vs.map txOf).map PyData.str → A.in1.in1.units + d.depth < cLine := fun d hd => by
    obtain ⟨x, _, rfl⟩ := List.mem_map.mp hd
    show A.units + 1 + 1 + 0 < cLine
    omega
  refine wpAny_bind (wpAny_holding (wpAny_call_entry slot_list_sort ⟨_, hoL, rfl⟩ entry_list_sort ?_ (args_list_sort _)))
  refine PySem.W.list_sort_vals (s := { s1 with heap := s1.heap.push (seqObj "list" vs.toArray 0) }) hoL (PySem.W.SortsAt.data (er _) hal hk hdp) hL ⟨_, rfl, ?_⟩
  obtain ⟨c, hc⟩ := sortedHeap_at (vs := vs) (out := (PySem.W.sortVals _ false vs vs).toArray) hoL
  refine wpAny_pure ⟨_, rfl, hQ _ s1.heap.objs.size _ c (vs.map txOf) (fun b u e => ?_) g1 o1 hz hc hpm ?_⟩
  · have q := k1 b u e
    have lt := Heap.lt_size q
    rw [sortedHeap_old (Nat.ne_of_lt lt) (by rw [size_push']; exact Nat.lt_succ_of_lt lt)]
    exact Heap.get?_push_of_some _ q
  · have z := PySem.W.sortVals_data (enc := id) false e1 (er (PySem.W.sortingHeap (s1.heap.push (seqObj "list" vs.toArray 0)) s1.heap.objs.size vs)) (by rw [List.map_id]; exact hal)
    rw [List.map_id] at z
    exact z
end
end CH

/-! CH 10y: sorted(set(xs)), len(set(xs)), xs a list of texts. -/
namespace CH
open PySem PySem.Spec PyProof.Rows L2

def sLt (a b : Str) : Bool := decide (a.cps.toList < b.cps.toList)
theorem sLt_irr (a : Str) : sLt a a = false := decide_eq_false (List.lt_irrefl _)
theorem sLt_tra {a b c : Str} (h : sLt a b = true) (k : sLt b c = true) : sLt a c = true := decide_eq_true (List.lt_trans (of_decide_eq_true h) (of_decide_eq_true k))
theorem sLt_tri (a b : Str) (h : a ≠ b) : sLt a b = true ∨ sLt b a = true := by
  by_cases h1 : a.cps.toList < b.cps.toList
  · exact .inl (decide_eq_true h1)
  · by_cases h2 : b.cps.toList < a.cps.toList
    · exact .inr (decide_eq_true h2)
    · exfalso
      have e : a.cps.toList = b.cps.toList := List.le_antisymm (List.not_lt.mp h2) (List.not_lt.mp h1)
      apply h
      cases a
      cases b
      simp only [Str.mk.injEq]
      exact Array.toList_inj.mp e
def sSort (l : List Str) : List Str := l.mergeSort fun a b => !sLt b a
theorem sLe_tot (a b : Str) : (!sLt b a || !sLt a b) = true := by
  cases e : sLt b a with
  | false => rfl
  | true =>
    cases e' : sLt a b with
    | false => rfl
    | true => have := sLt_tra e e'; rw [sLt_irr] at this; cases this
theorem sLe_tra (a b c : Str) (h1 : (!sLt b a) = true) (h2 : (!sLt c b) = true) : (!sLt c a) = true := by
  cases e : sLt c a with
  | false => rfl
  | true =>
    by_cases q : a = b
    · subst q; rw [e] at h2; cases h2
    · rcases sLt_tri a b q with w | w
      · rw [sLt_tra e w] at h2; cases h2
      · rw [w] at h1; cases h1
theorem sortD_strs (l : List Str) : sortD (l.map PyData.str) = (sSort l).map PyData.str := by
  refine (List.map_mergeSort fun a _ b _ => ?_).symm
  show (!sLt b a) = PySem.W.dataLe false id (.str a) (.str b)
  rw [sLt, ← PySem.W.dataLt_str]
  rfl
theorem sSort_perm (l : List Str) : (sSort l).Perm l := List.mergeSort_perm _ _
theorem sSort_same {l m : List Str} (h : l.Perm m) : sSort l = sSort m := by
  refine List.Perm.eq_of_pairwise (le := fun a b => (!sLt b a) = true) (fun a b _ _ h1 h2 => ?_) (List.pairwise_mergeSort sLe_tra sLe_tot l) (List.pairwise_mergeSort sLe_tra sLe_tot m) ((sSort_perm l).trans (h.trans (sSort_perm m).symm))
  by_cases e : a = b
  · exact e
  · rcases sLt_tri a b e with w | w
    · rw [w] at h2; cases h2
    · rw [w] at h1; cases h1
def dedS : List Str → List Str
  | [] => []
  | s :: r => if s ∈ r then dedS r else s :: dedS r
theorem any_strs (s : Str) (r : List Str) : ((r.map PyData.str).any fun e => PyData.eqv e (.str s)) = decide (s ∈ r) := by
  induction r with
  | nil => simp
  | cons x r ih =>
    rw [List.map_cons, List.any_cons, ih]
    have e : PyData.eqv (.str x) (.str s) = decide (s = x) := by
      by_cases h : s = x
      · subst h; simp [PyData.eqv]
      · simp [PyData.eqv, h, Ne.symm h]
    rw [e]
    simp [Bool.decide_or]
theorem dedup_strs : ∀ l : List Str, dedup (l.map PyData.str) = (dedS l).map PyData.str
  | [] => rfl
  | s :: r => by
    rw [List.map_cons, dedup, any_strs, dedS, dedup_strs r]
    by_cases h : s ∈ r <;> simp [h]
theorem mem_dedS : ∀ (l : List Str) (x : Str), x ∈ dedS l ↔ x ∈ l
  | [], x => Iff.rfl
  | s :: r, x => by
    rw [dedS]
    split
    · rename_i h
      rw [mem_dedS r x, List.mem_cons]
      exact ⟨.inr, fun z => z.elim (fun e => e ▸ h) id⟩
    · rw [List.mem_cons, List.mem_cons, mem_dedS r x]
theorem dedS_nodup : ∀ l : List Str, (dedS l).Nodup
  | [] => .nil
  | s :: r => by
    rw [dedS]
    split
    · exact dedS_nodup r
    · rename_i h
      exact List.nodup_cons.mpr ⟨fun z => h ((mem_dedS r s).mp z), dedS_nodup r⟩
theorem same_perm {l m : List Str} (hl : l.Nodup) (hm : m.Nodup) (h : ∀ x, x ∈ l ↔ x ∈ m) : l.Perm m := by
  rcases Nat.le_total m.length l.length with c | c
  · exact (nodup_perm hl (fun x hx => (h x).mp hx) c).symm
  · exact nodup_perm hm (fun x hx => (h x).mpr hx) c
theorem strs_all : ∀ {xs : List D}, xs.all isStr = true → ∃ ss : List Str, xs = ss.map PyData.str
  | [], _ => ⟨[], rfl⟩
  | x :: xs, h => by
    rw [List.all_cons, Bool.and_eq_true] at h
    obtain ⟨s, rfl⟩ := isStr_iff h.1
    obtain ⟨ss, rfl⟩ := strs_all h.2
    exact ⟨s :: ss, rfl⟩
theorem strs_vals {K : PySem.W.Frag} {B : Hp} : ∀ {vs : List V} {us : List Value} {ss : List Str}, Vals vs us → DpAll K B vs (ss.map PyData.str) → StrsAre us ss
  | _, _, [], r, d => by
    cases d
    cases r
    exact .nil
  | _, _, s :: ss, r, d => by
    cases d with
    | cons h t =>
      cases h
      cases r with
      | cons r1 r2 =>
        obtain ⟨k, rfl⟩ := r1
        exact .cons s k (strs_vals r2 t)
section
variable {X : Cx}
def tSSet (K : PySem.W.Frag) (ta : TE) : TE := fun σ H Q => ta σ H fun x H1 => ∃ (B : Hp) (ss : List Str), Same B H1 ∧ Dp K B x (.list (ss.map PyData.str)) ∧ ss.length ≤ 4000 ∧ ∀ v B' H', Ext B H1 B' H' → Dp K B' v (.list ((sSort (dedS ss)).map PyData.str)) → Q v H'
theorem pe_sset {a : Expr} {ta : TE} {p p2 q pos : Pos} (hc : X.calm = true) (hu : X.A.units + 500 < cLine) (hg : Gl X "sorted") (hm : X.mg "sorted" = none) (hg2 : Gl X "set") (hm2 : X.mg "set" = none) (ha : PE X a ta)
    (na : starEach [a] X.env = (false, eval a X.env) :: starEach [] X.env) : PE X (.Call (.Name "sorted" p) [.Call (.Name "set" p2) [a] [] q] [] pos) (tSSet X.K ta) := by
  refine ⟨fun pins s σ H Q I h => ?_⟩
  refine Call_ (ld_blt I hg hm (show bootBuiltins "sorted" = some (.builtin "sorted") by decide +kernel) ?_)
  refine PyProof.Rows.callWith_builtin1 (PyProof.Rows.args_cons ?_ rfl) rfl rfl
  refine Call_ (ld_blt I hg2 hm2 PyProof.Rows.boot_set ?_)
  refine PyProof.Rows.callWith_type1 (PyProof.Rows.args_cons (thn (ha.run pins s σ H _ I h) fun v s1 ⟨x, H1, I1, r1, q1⟩ => PyProof.Rows.args_nil ?_) na) na rfl
  obtain ⟨B, ss, sb, hd, hl, q1⟩ := q1
  cases hd with
  | @lst l vs ds h1 dv =>
    cases r1
    obtain ⟨its, rv, pl, hz⟩ := I1.list (sb.seq h1)
    have sr : StrsAre its ss := strs_vals rv dv
    refine call_set_strs ss (I1.ok.hd hc) pl.isList (by simpa using sr) (by unfold scanBound; omega) fun h' tk m R hx hml hk => ?_
    refine PyProof.Rows.args_nil ?_
    refine sorted_txs (s := { s1 with heap := h', toks := tk }) R (I1.ok.hd hc) (by unfold scanBound; omega) (by omega) fun s' pp out c xs k2 g2 o2 hp hg' pm ea => ?_
    have ks : ∀ b o, s1.heap.get? b = some o → s'.heap.get? b = some o := fun b o e => k2 b o (hk b o e)
    have e1 : (xs.map PyData.str).mergeSort (PySem.W.dataLe false id) = (sSort (dedS ss)).map PyData.str := by
      refine (sortD_strs xs).trans ?_
      rw [sSort_same (pm.trans (same_perm R.nd (dedS_nodup ss) fun x => (hx x).trans (mem_dedS ss x).symm))]
    rw [e1] at ea
    obtain ⟨ws, rw', dw⟩ := each_vd (K := X.K) (B := B) (ea.mono fun v d ⟨x, t, h1, h2⟩ => by
      subst h1; subst h2
      exact ⟨.str x, ⟨t, rfl⟩, .str x⟩)
    have hwl : ws.length ≤ 4000 := by
      have z := dw.length
      rw [z, List.length_map, (sSort_perm _).length_eq]
      have := (same_perm R.nd (dedS_nodup ss) fun x => (hx x).trans (mem_dedS ss x).symm).length_eq
      omega
    have hlen : ws.length ≤ sizeLine := by have := lim_line; have : lim = 1000000 := rfl; omega
    have hps : s1.heap.objs.size ≤ pp := by
      refine Nat.le_trans ?_ hp
      have z := R
      obtain ⟨⟨D, h1, _⟩, _⟩ := z
      exact Nat.le_of_lt (Heap.lt_size h1)
    have hn : H1 pp = none := I1.hok.fresh hps
    have J : Inv X pins σ (upd H1 pp (.lst ws)) s' := I1.call' (ch := []) o2 (Un.laid ks hps hn) (I1.hok.laid ks hps ⟨hlen, out.toList, c, rw', hg'⟩) (by rw [g2]; exact I1.bare) (fun _ z => nomatch z)
    exact ⟨.ref pp, _, J, rfl, fin_own sb dw q1 hn⟩
def tLSet (K : PySem.W.Frag) (ta : TE) : TE := fun σ H Q => ta σ H fun x H1 => ∃ (B : Hp) (ss : List Str), Same B H1 ∧ Dp K B x (.list (ss.map PyData.str)) ∧ ss.length ≤ 4000 ∧ Q (.int (dedS ss).length) H1
theorem pe_lset {a : Expr} {ta : TE} {p p2 q pos : Pos} (hc : X.calm = true) (hg : Gl X "len") (hm : X.mg "len" = none) (hg2 : Gl X "set") (hm2 : X.mg "set" = none) (ha : PE X a ta)
    (na : starEach [a] X.env = (false, eval a X.env) :: starEach [] X.env) : PE X (.Call (.Name "len" p) [.Call (.Name "set" p2) [a] [] q] [] pos) (tLSet X.K ta) := by
  refine ⟨fun pins s σ H Q I h => ?_⟩
  refine Call_ (ld_blt I hg hm PySem.boot_len ?_)
  refine PyProof.Rows.callWith_builtin1 (PyProof.Rows.args_cons ?_ rfl) rfl rfl
  refine Call_ (ld_blt I hg2 hm2 PyProof.Rows.boot_set ?_)
  refine PyProof.Rows.callWith_type1 (PyProof.Rows.args_cons (thn (ha.run pins s σ H _ I h) fun v s1 ⟨x, H1, I1, r1, q1⟩ => PyProof.Rows.args_nil ?_) na) na rfl
  obtain ⟨B, ss, sb, hd, hl, q1⟩ := q1
  cases hd with
  | @lst l vs ds h1 dv =>
    cases r1
    obtain ⟨its, rv, pl, hz⟩ := I1.list (sb.seq h1)
    have sr : StrsAre its ss := strs_vals rv dv
    refine call_set_strs ss (I1.ok.hd hc) pl.isList (by simpa using sr) (by unfold scanBound; omega) fun h' tk m R hx hml hk => ?_
    refine PyProof.Rows.args_nil ?_
    have e1 : m.length = (dedS ss).length := (same_perm R.nd (dedS_nodup ss) fun x => (hx x).trans (mem_dedS ss x).symm).length_eq
    obtain ⟨⟨D, ho, T, ri, le⟩, nd⟩ := R
    have sz : D.1.size = m.length := T.sz
    have I2 : Inv X pins σ H1 { s1 with heap := h', toks := tk } := I1.kept fun b o e => hk b o e
    have hs2 : D.1.size ≤ sizeLine := by
      have := lim_line; have : lim = 1000000 := rfl; omega
    refine call_len_set (s := { s1 with heap := h', toks := tk }) ho ⟨rfl, rfl, rfl⟩ rfl T.fit (by first | exact hs2 | (unfold scanBound; omega) | omega) ⟨.int (dedS ss).length, H1, I2.tok _, ⟨_, by rw [sz, e1]⟩, q1⟩
variable {w : Wd} {a : Expr} {ma : M D} {p q r pos : Pos}
theorem p_sset (hK : X.K = w.K) (hc : X.calm = true) (hu : X.A.units + 500 < cLine) (hg : Gl X "sorted") (hm : X.mg "sorted" = none) (hg2 : Gl X "set") (hm2 : X.mg "set" = none) (ha : PE X a (tE w ma)) (hs : starEach [a] X.env = (false, eval a X.env) :: starEach [] X.env) :
    PE X (.Call (.Name "sorted" p) [.Call (.Name "set" q) [a] [] r] [] pos) (tE w fun ρ => (ma ρ).bind fun d => R.of (sSet d)) := by
  refine PE.imp (pe_sset hc hu hg hm hg2 hm2 ha hs) fun σ H Q ⟨B, ρ, r, q⟩ => ?_
  refine tEi (tE_bind r q) fun v H' ⟨d, B', e1, x, hd, q'⟩ => ?_
  obtain ⟨z, ez, qz⟩ := ev_of q'
  rw [hK]
  cases d with
  | list xs =>
    simp only [sSet] at ez
    split at ez
    · rename_i hc
      cases ez
      obtain ⟨ss, rfl⟩ := strs_all hc.1
      refine ⟨B', ss, x.bh, hd, by simpa using hc.2, ?_⟩
      rw [dedup_strs, sortD_strs] at qz
      exact qz
    · cases ez
  | _ => cases ez
theorem p_lset (hK : X.K = w.K) (hc : X.calm = true) (hg : Gl X "len") (hm : X.mg "len" = none) (hg2 : Gl X "set") (hm2 : X.mg "set" = none) (ha : PE X a (tE w ma)) (hs : starEach [a] X.env = (false, eval a X.env) :: starEach [] X.env) :
    PE X (.Call (.Name "len" p) [.Call (.Name "set" q) [a] [] r] [] pos) (tE w fun ρ => (ma ρ).bind fun d => R.of (lSet d)) := by
  refine PE.imp (pe_lset hc hg hm hg2 hm2 ha hs) fun σ H Q ⟨B, ρ, r, q⟩ => ?_
  refine tEi (tE_bind r q) fun v H' ⟨d, B', e1, x, hd, q'⟩ => ?_
  obtain ⟨z, ez, qz⟩ := ev_of q'
  rw [hK]
  cases d with
  | list xs =>
    simp only [lSet] at ez
    split at ez
    · rename_i hc
      cases ez
      obtain ⟨ss, rfl⟩ := strs_all hc.1
      refine ⟨B', ss, x.bh, hd, by simpa using hc.2, ?_⟩
      rw [dedup_strs, List.length_map] at qz
      exact fin_same x.bh (.int _) qz
    · cases ez
  | _ => cases ez
end
end CH

/-! CH 11: every piece does what it comes to. -/
namespace CH
open PySem PySem.Spec PyProof.Rows L2

theorem mgn {I : Info} {sc : Scope} {N : List Str} {k : Nat} {F : FT} {w : Wd} {X : Cx} (C : CtxOk I sc N k F w X) (x : Str) (h : x ∈ bltNames := by decide +kernel) : X.mg x = none := C.bl x h
theorem and2 {a b : Bool} (h : (a && b) = true) : a = true ∧ b = true := by rwa [Bool.and_eq_true] at h
theorem ty_blt (t : Ty) : t.nm ∈ bltNames := by cases t <;> decide +kernel
/-- a stuck piece asks nothing -/
theorem p_stuck {X : Cx} {w : Wd} {e : Expr} : PE X e (tE w fun _ => .stuck) := ⟨fun pins s σ H Q I ⟨B, ρ, r, q⟩ => q.elim⟩
theorem p_stuckT {X : Cx} {w : Wd} {e : Expr} : PT X e (tT w fun _ => .stuck) := ⟨fun pins s σ H Q I ⟨B, ρ, r, q⟩ => q.elim⟩
theorem p_stuckW {X : Cx} {w : Wd} {e : Expr} : PW X e (tT w fun _ => .stuck) := ⟨fun wh pins s σ H Q I ⟨B, ρ, r, q⟩ => q.elim⟩
structure SE (X : Cx) (w : Wd) (e : Expr) (m : P) : Prop where
  v : PE X e (tE w m.v)
  t : PT X e (tT w m.t)
structure SEs (X : Cx) (w : Wd) (es : List Expr) (m : Ps) (n : Nat) : Prop where
  l : PA X es (tA w m.l)
  andV : ∀ p, PE X (.BoolOp .And es p) (tE w m.andV)
  orV : ∀ p, PE X (.BoolOp .Or es p) (tE w m.orV)
  andT : ∀ p, PW X (.BoolOp .And es p) (tT w m.andT)
  orT : ∀ p, PW X (.BoolOp .Or es p) (tT w m.orT)
  all : n ≤ 1 → PTs X es (tT w m.allT)
theorem SE.mk1 {X : Cx} {w : Wd} {e : E} {m : M D} (hK : X.K = w.K) (h : PE X e.py (tE w m)) (hp : plainT e = true) : SE X w e.py (mkV m) := ⟨h, tst hK h (true_py hp X.env)⟩
section
variable {I : Info} {N : List Str} {k : Nat} {F : FT}
mutual
theorem snd : ∀ (e : E) {sc : Scope} {w : Wd} {X : Cx} (C : CtxOk I sc N k F w X), e.wf I N sc X.calm = true → SE X w e.py (ev I F e)
  | .var i x p, sc, w, X, C, h => by
    simp only [E.wf, Bool.and_eq_true, decide_eq_true_eq] at h
    exact SE.mk1 (e := .var i x p) C.hK (p_var (by rw [C.hN]; exact h.1.1) (C.vis h.1.2) (okNm1 h.2) (okNm2 h.2)) rfl
  | .glob g x p, sc, w, X, C, h => by
    simp only [E.wf, Bool.and_eq_true, decide_eq_true_eq] at h
    obtain ⟨⟨h1, h2⟩, h3⟩ := h
    cases e : I.globs[g]? with
    | none => rw [e] at h3; cases h3
    | some y =>
      obtain ⟨x', d⟩ := y
      rw [e] at h3
      have h3 : some x' = some x := h3
      cases h3
      obtain ⟨u, v, m1, m2, m3⟩ := C.gl g _ _ e
      refine SE.mk1 (e := .glob g _ p) C.hK ?_ rfl
      have z := p_glob (w := w) (pos := p) (C.gx h1) m1 m2 m3 (okNm1 h2)
      simp only [e]
      exact z
  | .cst c j p, sc, w, X, C, h => SE.mk1 (e := .cst c j p) C.hK p_cst rfl
  | .tup es j p, sc, w, X, C, h => by
    simp only [E.wf, Bool.and_eq_true, decide_eq_true_eq] at h
    exact SE.mk1 (e := .tup es j p) C.hK (p_tup (snds es C h.1).l fun ρ ds e => by rw [evs_len I F es ρ ds e]; exact h.2) rfl
  | .lst es p, sc, w, X, C, h => by
    simp only [E.wf, Bool.and_eq_true, decide_eq_true_eq] at h
    exact SE.mk1 (e := .lst es p) C.hK (p_lst (snds es C h.1).l fun ρ ds e => by rw [evs_len I F es ρ ds e]; exact h.2) rfl
  | .bin op a b p, sc, w, X, C, h => SE.mk1 (e := .bin op a b p) C.hK (p_bin C.hK op (snd a C (and2 h).1).v (snd b C (and2 h).2).v) rfl
  | .neg a p, sc, w, X, C, h => SE.mk1 (e := .neg a p) C.hK (p_neg (snd a C h).v) rfl
  | .not a p, sc, w, X, C, h => ⟨p_not C.hK (snd a C h).v, p_notT (snd a C h).t⟩
  | .bop .And es p, sc, w, X, C, h => ⟨(snds es C h).andV p, ((snds es C h).andT p).pt⟩
  | .bop .Or es p, sc, w, X, C, h => ⟨(snds es C h).orV p, ((snds es C h).orT p).pt⟩
  | .cmp op a b p, sc, w, X, C, h => ⟨p_cmp C.hK C.un op (snd a C (and2 h).1).v (snd b C (and2 h).2).v (marks_py op b), p_cmpT C.hK C.un op (snd a C (and2 h).1).v (snd b C (and2 h).2).v (marks_py op b)⟩
  | .chn o1 o2 a b c p, sc, w, X, C, h =>
    have h1 := and2 h
    have h2 := and2 h1.1
    ⟨p_chn C.hK C.un o1 o2 (snd a C h2.1).v (snd b C h2.2).v (snd c C h1.2).v (marks2_py o1 o2 b c), p_chnT C.hK C.un o1 o2 (snd a C h2.1).v (snd b C h2.2).v (snd c C h1.2).v (marks2_py o1 o2 b c)⟩
  | .ife t a b p, sc, w, X, C, h =>
    have h1 := and2 h
    have h2 := and2 h1.1
    ⟨p_ife (snd t C h2.1).t (snd a C h2.2).v (snd b C h1.2).v, p_stuckT⟩
  | .ix a i p, sc, w, X, C, h => SE.mk1 (e := .ix a i p) C.hK (p_ix C.hK (snd a C (and2 h).1).v (snd i C (and2 h).2).v (plain_py i)) rfl
  | .sl a lo hi p q, sc, w, X, C, h =>
    have h1 := and2 h
    have h2 := and2 h1.1
    SE.mk1 (e := .sl a lo hi p q) C.hK (p_sl C.hK (snd a C h2.1).v (sndo lo C h2.2) (sndo hi C h1.2)) rfl
  | .rev a p q r s, sc, w, X, C, h => SE.mk1 (e := .rev a p q r s) C.hK (p_rev C.hK (snd a C h).v) rfl
  | .call f x es p q, sc, w, X, C, h => by
    simp only [E.wf, Bool.and_eq_true] at h
    obtain ⟨⟨⟨⟨hc, hg⟩, hn⟩, hes⟩, hf⟩ := h
    cases e : I.fns[f]? with
    | none => rw [e] at hf; cases hf
    | some fi =>
      rw [e] at hf
      simp only [Bool.and_eq_true, decide_eq_true_eq] at hf
      obtain ⟨⟨h1, h2⟩, h3⟩ := hf
      subst h1
      obtain ⟨fa, fd, ps, FO, mgf, kp, bs, _⟩ := (C.fs hc f fi e).at_
      obtain ⟨ds, dvs, hb, hv, hl, hd⟩ := bs es.len h2 h3
      refine SE.mk1 (e := .call f fi.name es p q) C.hK ?_ rfl
      show PE X (.Call (.Name fi.name p) es.py [] q) (tE w fun ρ => ((evs I F es).l ρ).bind fun ds => match I.fns[f]? with
        | some fi => F f (ds ++ fi.fill ds.length)
        | none => .stuck)
      simp only [e]
      have hS := snds es C hes
      match es, hS, bs, hl, hd, h2, h3, hes with
      | .cons a r, hS, bs, hl, hd, h2, h3, hes =>
        exact PE.imp (pe_callSD FO (C.rm hc) (C.gx hg) mgf kp hb hv (fun σ => passAt C.tk σ) hS.l (okNm1 hn) (star_py a r.py X.env) (star_any r X.env _)) fun σ H Q h =>
          call_read (evs_len I F (.cons a r)) hl h2 hd (fun _ _ _ z => z) h
      | .nil, hS, bs, hl, hd, h2, h3, hes =>
        exact PE.imp (pe_call0SD FO (C.rm hc) (C.gx hg) mgf kp hb hv (fun σ => passAt C.tk σ) (okNm1 hn)) fun σ H Q h =>
          call_read (evs_len I F .nil) hl h2 hd (fun _ _ _ ⟨B, ρ, r, q⟩ => q _ _ _ (Ext.refl r.sub) .nil) h
  | .bi b a p q, sc, w, X, C, h => by
    simp only [E.wf, Bool.and_eq_true] at h
    obtain ⟨⟨⟨hc, hg⟩, ha⟩, hb⟩ := h
    cases b with
    | len => exact SE.mk1 (e := .bi .len a p q) C.hK (p_len C.hK (C.gx hg) (mgn C "len") (snd a C ha).v (star_py a [] X.env)) rfl
    | list => exact SE.mk1 (e := .bi .list a p q) C.hK (p_list C.hK (C.gx hg) (mgn C "list") (snd a C ha).v (star_py a [] X.env)) rfl
    | tuple => exact SE.mk1 (e := .bi .tuple a p q) C.hK (p_tuple C.hK (C.gx hg) (mgn C "tuple") (snd a C ha).v (star_py a [] X.env)) rfl
    | sorted => exact SE.mk1 (e := .bi .sorted a p q) C.hK (p_sorted C.hK C.un (C.gx hg) (mgn C "sorted") (snd a C ha).v (star_py a [] X.env)) rfl
    | max => exact SE.mk1 (e := .bi .max a p q) C.hK (p_max C.hK hc (C.gx hg) (mgn C "max") (snd a C ha).v (star_py a [] X.env)) rfl
    | str => cases hb
  | .isi t a p q r, sc, w, X, C, h => by
    simp only [E.wf, Bool.and_eq_true] at h
    exact SE.mk1 (e := .isi t a p q r) C.hK (p_isi C.hK (C.gx h.1.1) (mgn C "isinstance") t (C.gx h.1.2) (C.bl _ (ty_blt t)) (snd a C h.2).v (star_py a _ X.env)) rfl
  | .srev a p q kk r, sc, w, X, C, h => by
    simp only [E.wf, Bool.and_eq_true] at h
    exact SE.mk1 (e := .srev a p q kk r) C.hK (p_srev C.hK C.un (C.gx h.1.2) (mgn C "sorted") (snd a C h.2).v (star_py a [] X.env)) rfl
  | .sset a p q r s, sc, w, X, C, h => by
    simp only [E.wf, Bool.and_eq_true] at h
    obtain ⟨⟨⟨hc, hg⟩, hg2⟩, ha⟩ := h
    exact SE.mk1 (e := .sset a p q r s) C.hK (p_sset C.hK hc C.un (C.gx hg) (mgn C "sorted") (C.gx hg2) (mgn C "set") (snd a C ha).v (star_py a [] X.env)) rfl
  | .join s a p q, sc, w, X, C, h => by
    simp only [E.wf, Bool.and_eq_true] at h
    obtain ⟨⟨⟨h1, h2⟩, h3⟩, h4⟩ := h
    exact SE.mk1 (e := .join s a p q) C.hK (p_join C.hK (snd s C h2).v (snd a C h3).v (star_py a [] X.env) (by cases s <;> first | rfl | cases h1) h4 (fun ρ d e => by cases s <;> first | (cases h1; done) | (rename_i c _ _; cases c <;> first | (cases h1; done) | (cases e; exact ⟨_, rfl⟩)))) rfl
  | .lset a p q r s, sc, w, X, C, h => by
    simp only [E.wf, Bool.and_eq_true] at h
    obtain ⟨⟨⟨hc, hg⟩, hg2⟩, ha⟩ := h
    exact SE.mk1 (e := .lset a p q r s) C.hK (p_lset C.hK hc (C.gx hg) (mgn C "len") (C.gx hg2) (mgn C "set") (snd a C ha).v (star_py a [] X.env)) rfl
  | .max2 a b p q, sc, w, X, C, h => by
    simp only [E.wf, Bool.and_eq_true] at h
    obtain ⟨⟨⟨hc, hg⟩, ha⟩, hb⟩ := h
    exact SE.mk1 (e := .max2 a b p q) C.hK (p_max2 C.hK hc (C.gx hg) (mgn C "max") (snd a C ha).v (snd b C hb).v (star_py a _ X.env) (star_py b [] X.env)) rfl
  | .ixo i x p e q, sc, w, X, C, h => by
    simp only [E.wf, Bool.and_eq_true, decide_eq_true_eq] at h
    obtain ⟨⟨⟨h1, h2⟩, h3⟩, h4⟩ := h
    exact SE.mk1 (e := .ixo i x p e q) C.hK (p_ixo C.hK (by rw [C.hN]; exact h1) (C.vis h2) (okNm1 h3) (okNm2 h3) (snd e C h4).v (plain_py e)) rfl
  | .callk f x es kw a p q r, sc, w, X, C, h => by
    simp only [E.wf, Bool.and_eq_true, decide_eq_true_eq] at h
    obtain ⟨⟨⟨⟨⟨⟨⟨hc, hg⟩, hn⟩, hes⟩, ha⟩, hl⟩, hk⟩, hf⟩ := h
    cases e : I.fns[f]? with
    | none => rw [e] at hf; cases hf
    | some fi =>
      rw [e] at hf
      simp only [Bool.and_eq_true, decide_eq_true_eq] at hf
      obtain ⟨⟨h1, h2⟩, h3⟩ := hf
      subst h1
      obtain ⟨fa, fd, ps, FO, mgf, kp, _, bk⟩ := (C.fs hc f fi e).at_
      subst h3
      obtain ⟨g, gV, hb, hgv⟩ := bk hk
      refine SE.mk1 (e := .callk f fi.name es fi.kw a p q r) C.hK ?_ rfl
      have hS := snds es C hes
      have hA := (snd a C ha).v
      match es, hS, hl, h2, hes with
      | .cons a0 r0, hS, hl, h2, hes =>
        exact PE.imp (pe_callNS FO (C.rm hc) (C.gx hg) mgf kp hb (fun σ => passAt C.tk σ) hS.l (pk_cons hA pk_nil) (okNm1 hn) (star_py a0 r0.py X.env) (star_any r0 X.env _)) fun σ H Q h =>
          callk_read (evs_len I F (.cons a0 r0)) (by omega) hgv h
  | .leno i x p q r, sc, w, X, C, h => by
    simp only [E.wf, Bool.and_eq_true, decide_eq_true_eq] at h
    obtain ⟨⟨⟨h1, h2⟩, h3⟩, h4⟩ := h
    exact SE.mk1 (e := .leno i x p q r) C.hK (p_leno (mgn C "len") (C.gx h4) (by rw [C.hN]; exact h1) (C.vis h2) (okNm1 h3) (okNm2 h3)) rfl
  | .comp elt tg it ifs sc' own p, sc, w, X, C, h => by
    simp only [E.wf, Bool.and_eq_true, decide_eq_true_eq] at h
    obtain ⟨⟨⟨⟨⟨⟨⟨⟨hc, hit⟩, htw⟩, hb⟩, htg⟩, hix⟩, hifs⟩, hle⟩, hel⟩ := h
    refine SE.mk1 (e := .comp elt tg it ifs sc' own p) C.hK ?_ rfl
    refine p_comp C hc hb htg (fun i hi => ?_) (sndi it tg C hc hit htw) (fun s H A cl fp => (snds ifs (C.blk hc sc' s H A cl fp) hifs).all hle) (fun s H A cl fp => (snd elt (C.blk hc sc' s H A cl fp) hel).v) (fun x => fold_it it X.env x)
    have z := List.all_eq_true.mp hix i hi
    simpa using z
  | .exis i x c y p q r s, sc, w, X, C, h => by
    simp only [E.wf, Bool.and_eq_true, decide_eq_true_eq] at h
    obtain ⟨⟨⟨⟨⟨⟨⟨_, h1⟩, h2⟩, h3⟩, h4⟩, h5⟩, h6⟩, h7⟩ := h
    refine SE.mk1 (e := .exis i x c y p q r s) C.hK ?_ rfl
    have off : (∀ (a : Addr) (c0 : Nat) (dx : Option Addr) (nm : Str), w.sx = some (a, c0, dx, nm) → I.exs[c0]? = none) → PE X (E.exis i x c y p q r s).py (tE w (ev I F (.exis i x c y p q r s)).v) := fun hz => ⟨fun pins sh σ H Q J ⟨B, ρ, rl, qq⟩ => by
      exfalso
      simp only [ev, mkV] at qq
      split at qq
      · rename_i c' f' he
        obtain ⟨a, dx, nm, e1, _⟩ := rl.exc i c' f' he
        rw [hz _ _ _ _ e1] at qq
        exact qq
      · exact qq⟩
    cases hsx : w.sx with
    | none => exact off fun a c0 dx nm e => by rw [hsx] at e; cases e
    | some t =>
      obtain ⟨a, c0, dx, nm⟩ := t
      cases hx : I.exs[c0]? with
      | none => exact off fun a' c' dx' nm' e => by rw [hsx] at e; cases e; exact hx
      | some xi =>
        refine PE.imp ((C.ex a c0 dx nm hsx).2.isE xi c y hx h7 (C.gx h5) (okNm1 h6) (C.gx h4) (pe_var (by rw [C.hN]; exact h1) (C.vis h2) (okNm1 h3) (okNm2 h3))) fun σ H Q ⟨B, ρ, rl, qq⟩ => ?_
        simp only at qq
        split at qq
        · rename_i c' f' he
          obtain ⟨a', dx', nm', e1, e2, e3, e4⟩ := rl.exc i c' f' he
          rw [hsx] at e1
          cases e1
          rw [hx] at qq
          refine ⟨.ref a, e2, rfl, fun dd hdd => ?_, fin_same rl.sub (.bl _) qq⟩
          cases f' with
          | none => rw [e3 rfl] at hdd; cases hdd
          | some z =>
            obtain ⟨x0, v, e5, e6, _⟩ := e4 z rfl
            rw [e5] at hdd
            cases hdd
            exact ⟨_, rl.sub _ _ e6⟩
        · exact qq.elim
  | .exat i x f p q, sc, w, X, C, h => by
    simp only [E.wf, Bool.and_eq_true, decide_eq_true_eq] at h
    obtain ⟨⟨⟨_, h1⟩, h2⟩, h3⟩ := h
    refine SE.mk1 (e := .exat i x f p q) C.hK ?_ rfl
    have off : (∀ (a : Addr) (c0 : Nat) (dx : Option Addr) (nm : Str) (xi : XInfo), w.sx = some (a, c0, dx, nm) → I.exs[c0]? = some xi → xi.field ≠ some f) → PE X (E.exat i x f p q).py (tE w (ev I F (.exat i x f p q)).v) := fun hz => ⟨fun pins sh σ H Q J ⟨B, ρ, rl, qq⟩ => by
      exfalso
      simp only [ev, mkV] at qq
      split at qq
      · rename_i c' d' he
        obtain ⟨a, dx, nm, e1, _⟩ := rl.exc i c' _ he
        split at qq
        · rename_i xi hxi
          rw [if_neg (hz _ _ _ _ xi e1 hxi)] at qq
          exact qq
        · exact qq
      · exact qq⟩
    cases hsx : w.sx with
    | none => exact off fun a c0 dx nm xi e => by rw [hsx] at e; cases e
    | some t =>
      obtain ⟨a, c0, dx, nm⟩ := t
      cases hx : I.exs[c0]? with
      | none => exact off fun a' c' dx' nm' xi e e2 => by rw [hsx] at e; cases e; rw [hx] at e2; cases e2
      | some xi =>
        by_cases hf : xi.field = some f
        · obtain ⟨rfl, at1⟩ := (C.ex a c0 dx nm hsx).2.atE xi f hx hf
          refine PE.imp (at1 (pe_var (by rw [C.hN]; exact h1) (C.vis h2) (okNm1 h3) (okNm2 h3))) fun σ H Q ⟨B, ρ, rl, qq⟩ => ?_
          simp only at qq
          split at qq
          · rename_i c' d' he
            obtain ⟨a', dx', nm', e1, e2, _, e3⟩ := rl.exc i c' _ he
            rw [hsx] at e1
            cases e1
            obtain ⟨x0, v, e4, e5, e6⟩ := e3 d' rfl
            rw [hx] at qq
            simp only at qq
            rw [if_pos hf] at qq
            exact ⟨.ref a, e2, rfl, x0, _, v, e4, rl.sub _ _ e5, by simp [List.lookup], fin_same rl.sub e6 qq⟩
          · exact qq.elim
        · exact off fun a' c' dx' nm' xi' e e2 => by rw [hsx] at e; cases e; rw [hx] at e2; cases e2; exact hf
theorem snds : ∀ (es : Es) {sc : Scope} {w : Wd} {X : Cx} (C : CtxOk I sc N k F w X), es.wf I N sc X.calm = true → SEs X w es.py (evs I F es) es.len
  | .nil, sc, w, X, C, h => ⟨p_nil, fun _ => p_stuck, fun _ => p_stuck, fun _ => p_stuckW, fun _ => p_stuckW, fun _ => ⟨fun pins s σ H Q I ⟨B, ρ, r, q⟩ => pts_nil.run pins s σ H Q I (q _ _ (Ext.refl r.sub))⟩⟩
  | .cons a .nil, sc, w, X, C, h => by
    have ha := snd a C (and2 h).1
    refine ⟨?_, fun p => pe_one ha.v, fun p => pe_one ha.v, fun p => pw_and1 ha.t, fun p => pw_or1 ha.t, fun _ => pts_one ha.t⟩
    refine PA.imp (p_cons ha.v p_nil (star_py a [] X.env)) fun σ H Q ⟨B, ρ, r, q⟩ => ⟨B, ρ, r, q⟩
  | .cons a (.cons b r), sc, w, X, C, h => by
    have ha := snd a C (and2 h).1
    have hr := snds (.cons b r) C (and2 h).2
    exact ⟨p_cons ha.v hr.l (star_py a _ X.env), fun p => p_and C.hK ha.v (hr.andV p), fun p => p_or C.hK ha.v (hr.orV p), fun p => p_andT ha.t (hr.andT p), fun p => p_orT ha.t (hr.orT p), fun z => by
      have z' : r.len + 1 + 1 ≤ 1 := z
      omega⟩
theorem sndo : ∀ (o : Oe) {sc : Scope} {w : Wd} {X : Cx} (C : CtxOk I sc N k F w X), o.wf I N sc X.calm = true → PO X o.py (tOo w (evo I F o))
  | .no, sc, w, X, C, h => p_no
  | .so a, sc, w, X, C, h => p_so (snd a C h).v
theorem sndi : ∀ (it : It) (tg : Tg) {sc : Scope} {w : Wd} {X : Cx} (C : CtxOk I sc N k F w X), X.calm = true → it.wf I N sc X.calm = true → (match it with
      | .enum .. => tg.isTwo
      | .zip .. => tg.isTwo
      | _ => true) = true → PI X tg.py it.py (tI w (evi I F it))
  | .seq a, tg, sc, w, X, C, hc, h, ht => p_seq C.hK (snd a C h).v
  | .rng es p q, tg, sc, w, X, C, hc, h, ht => by
    have h0 := and2 h
    have h1 := and2 h0.1
    have h3 : es.len ≤ 3 := of_decide_eq_true h0.2
    have hS := snds es C h1.2
    have hl := evs_len I F es
    match es, hS, hl, h3 with
    | .nil, hS, hl, _ => exact ⟨fun pins s σ H Q I ⟨B, ρ, r, q⟩ => q.elim⟩
    | .cons a .nil, hS, hl, _ => exact p_rng1 (C.gx h1.1) (mgn C "range") hS.l hl (star_py a [] X.env)
    | .cons a (.cons b .nil), hS, hl, _ => exact p_rng2 (C.gx h1.1) (mgn C "range") hS.l hl (by show starEach (a.py :: b.py :: []) X.env = _; rw [star_py, star_py]; rfl) (star_py b [] X.env)
    | .cons a (.cons b (.cons c .nil)), hS, hl, _ => exact p_rng3 (C.gx h1.1) (mgn C "range") hS.l hl (star_py a _ X.env) (star_any (.cons b (.cons c .nil)) X.env q)
    | .cons a (.cons b (.cons c (.cons d r))), hS, hl, h3 =>
      have z : r.len + 1 + 1 + 1 + 1 ≤ 3 := h3
      omega
  | .enum a p q, .two i x p1 j y p2 kk r, sc, w, X, C, hc, h, ht => p_enum C.hK (C.gx (and2 h).1) (mgn C "enumerate") (snd a C (and2 h).2).v (star_py a [] X.env)
  | .enum a p q, .three i x p1 j y p2 l z p3 kk r, sc, w, X, C, hc, h, ht => p_enum C.hK (C.gx (and2 h).1) (mgn C "enumerate") (snd a C (and2 h).2).v (star_py a [] X.env)
  | .enum a p q, .one .., sc, w, X, C, hc, h, ht => by cases ht
  | .zip a b p q, .two i x p1 j y p2 kk r, sc, w, X, C, hc, h, ht =>
    have h1 := and2 h
    have h2 := and2 h1.1
    p_zip C.hK (C.gx h2.1) (mgn C "zip") (snd a C h2.2).v (snd b C h1.2).v (star_py a _ X.env) (star_py b [] X.env)
  | .zip a b p q, .three i x p1 j y p2 l z p3 kk r, sc, w, X, C, hc, h, ht =>
    have h1 := and2 h
    have h2 := and2 h1.1
    p_zip C.hK (C.gx h2.1) (mgn C "zip") (snd a C h2.2).v (snd b C h1.2).v (star_py a _ X.env) (star_py b [] X.env)
  | .zip a b p q, .one .., sc, w, X, C, hc, h, ht => by cases ht
  | .revd a p q, tg, sc, w, X, C, hc, h, ht => p_revd C.hK (C.gx (and2 h).1) (mgn C "reversed") (snd a C (and2 h).2).v (star_py a [] X.env)
end
end
end CH

/-! CH 12: statements: how they are written, what they come to. -/
namespace CH
open PySem PySem.Spec PyProof.Rows L2

/-- an expression that makes a new list -/
inductive Fe where
  | lst (es : Es) (p : Pos)
  | ife (t : E) (a b : Es) (pa pb p : Pos)
def Fe.py : Fe → Expr
  | .lst es p => .List es.py p
  | .ife t a b pa pb p => .IfExp t.py (.List a.py pa) (.List b.py pb) p
@[simp] def evf (I : Info) (F : FT) : Fe → M (List D)
  | .lst es _ => (evs I F es).l
  | .ife t a b _ _ _ => fun ρ => ((ev I F t).t ρ).bind fun k => if k = true then (evs I F a).l ρ else (evs I F b).l ρ

/-- an except suite: no calls in it -/
inductive Su where
  | nil
  | ret (e : E) (p : Pos)
  | set (i : Nat) (x : Str) (e : E) (px p : Pos) (r : Su)
/-- an except clause: class, name, suite -/
structure Hd where
  c : Nat
  y : Str
  n : Option (Nat × Str)
  s : Su
  np : Pos
  p : Pos
def Su.py : Su → List Stmt
  | .nil => []
  | .ret e p => [.Return (some e.py) p]
  | .set _ x e px p r => .Assign [.Name x px] e.py p :: r.py
def Hd.py (h : Hd) : ExceptHandler := .ExceptHandler (some (.Name h.y h.np)) (h.n.map (·.2)) h.s.py h.p
mutual
inductive S where
  | expr (e : E) (p : Pos)
  | app (i : Nat) (x : Str) (e : E) (px pa pc p : Pos)
  | ext (i : Nat) (x : Str) (e : E) (px pa pc p : Pos)
  | ins (i : Nat) (x : Str) (a b : E) (px pa pc p : Pos)
  | set (i : Nat) (x : Str) (e : E) (px p : Pos)
  | setF (i : Nat) (x : Str) (e : Fe) (px p : Pos)
  | par (i : Nat) (x : Str) (px : Pos) (j : Nat) (y : Str) (py : Pos) (kt : Nat) (pt : Pos) (a b : E) (kv : Nat) (pv p : Pos)
  | par3 (i : Nat) (x : Str) (px : Pos) (j : Nat) (y : Str) (py : Pos) (l : Nat) (z : Str) (pz : Pos) (kt : Nat) (pt : Pos) (a b c : E) (kv : Nat) (pv p : Pos)
  | unp (tg : Tg) (e : E) (p : Pos)
  | aug (i : Nat) (x : Str) (e : E) (px p : Pos)
  | ite (t : E) (a b : Ss) (p : Pos)
  | for_ (tg : Tg) (it : It) (b : Ss) (p : Pos)
  | while_ (t : E) (b : Ss) (p : Pos)
  | ret (e : E) (p : Pos)
  | rais (c : Nat) (y : Str) (m : Str) (k : Nat) (py pm pc p : Pos)
  | raisF (c : Nat) (y : Str) (e : E) (py pc p : Pos)
  | try_ (b : Ss) (hs : List Hd) (p : Pos)
  | brk (p : Pos)
  | cont (p : Pos)
  | pass (p : Pos)
inductive Ss where
  | nil
  | cons (s : S) (r : Ss)
  | fz (i : Nat) (r : Ss)
end
mutual
def S.py : S → Stmt
  | .expr e p => .Expr e.py p
  | .app _ x e px pa pc p => .Expr (.Call (.Attribute (.Name x px) "append" pa) [e.py] [] pc) p
  | .ext _ x e px pa pc p => .Expr (.Call (.Attribute (.Name x px) "extend" pa) [e.py] [] pc) p
  | .ins _ x a b px pa pc p => .Expr (.Call (.Attribute (.Name x px) "insert" pa) [a.py, b.py] [] pc) p
  | .set _ x e px p => .Assign [.Name x px] e.py p
  | .setF _ x e px p => .Assign [.Name x px] e.py p
  | .par _ x px _ y py kt pt a b kv pv p => .Assign [.Tuple [.Name x px, .Name y py] kt pt] (.Tuple [a.py, b.py] kv pv) p
  | .par3 _ x px _ y py _ z pz kt pt a b c kv pv p => .Assign [.Tuple [.Name x px, .Name y py, .Name z pz] kt pt] (.Tuple [a.py, b.py, c.py] kv pv) p
  | .unp tg e p => .Assign [tg.py] e.py p
  | .aug _ x e px p => .AugAssign (.Name x px) .Add e.py p
  | .ite t a b p => .If t.py a.py b.py p
  | .for_ tg it b p => .For tg.py it.py b.py [] p
  | .while_ t b p => .While t.py b.py [] p
  | .ret e p => .Return (some e.py) p
  | .rais _ y m k py pm pc p => .Raise (some (.Call (.Name y py) [.Constant (.str m) k pm] [] pc)) none p
  | .raisF _ y e py pc p => .Raise (some (.Call (.Name y py) [e.py] [] pc)) none p
  | .try_ b hs p => .Try b.py (hs.map Hd.py) [] [] p
  | .brk p => .Break p
  | .cont p => .Continue p
  | .pass p => .Pass p
def Ss.py : Ss → List Stmt
  | .nil => []
  | .cons s r => s.py :: r.py
  | .fz _ r => r.py
end

/-- what a statement comes to: on with these slots; back with a value; out of the loop; to its next turn; an exception -/
inductive O where
  | nx (ρ : List Sl)
  | rt (d : D)
  | bk (ρ : List Sl)
  | ct (ρ : List Sl)
  | ex (c : Nat) (f : Option D) (ρ : List Sl)
  | stuck
def O.seq (o : O) (k : List Sl → O) : O := match o with
  | .nx ρ => k ρ
  | .rt d => .rt d
  | .bk ρ => .bk ρ
  | .ct ρ => .ct ρ
  | .ex c f ρ => .ex c f ρ
  | .stuck => .stuck
def onR {α : Type} (r : R α) (ρ : List Sl) (k : α → O) : O := match r with
  | .ok a => k a
  | .exc c f => .ex c f ρ
  | .stuck => .stuck
@[simp] def forS (bd : D → List Sl → Option (List Sl)) (body : List Sl → O) : List D → List Sl → O
  | [], ρ => .nx ρ
  | d :: ds, ρ => match bd d ρ with
    | none => .stuck
    | some ρ' => match body ρ' with
      | .nx ρ2 => forS bd body ds ρ2
      | .ct ρ2 => forS bd body ds ρ2
      | .bk ρ2 => .nx ρ2
      | .rt d => .rt d
      | .ex c f ρ2 => .ex c f ρ2
      | .stuck => .stuck
def whileS (test : M Bool) (body : List Sl → O) : Nat → List Sl → O
  | 0, _ => .stuck
  | n + 1, ρ => onR (test ρ) ρ fun k => if k = true then (match body ρ with
      | .nx ρ2 => whileS test body n ρ2
      | .ct ρ2 => whileS test body n ρ2
      | .bk ρ2 => .nx ρ2
      | .rt d => .rt d
      | .ex c f ρ2 => .ex c f ρ2
      | .stuck => .stuck) else .nx ρ
/-- the turns that a while loop may have -/
def turns : Nat := 1000000
def noX : Sl → Bool
  | .exc _ _ => false
  | _ => true
@[simp] def xsu (I : Info) (F : FT) : Su → List Sl → O
  | .nil => fun ρ => .nx ρ
  | .ret e _ => fun ρ => onR ((ev I F e).v ρ) ρ fun d => .rt d
  | .set i _ e _ _ r => fun ρ => onR ((ev I F e).v ρ) ρ fun d => xsu I F r (setS ρ i d)
def inS (ρ : List Sl) (n : Option Nat) (c : Nat) (f : Option D) : List Sl := match n with
  | some i => ρ.set i (.exc c f)
  | none => ρ
def outS (ρ : List Sl) : Option Nat → List Sl
  | some i => ρ.set i .no
  | none => ρ
/-- behind a suite: the name goes, and nothing else may hold the exception -/
def finS (n : Option Nat) : O → O
  | .nx ρ => if (outS ρ n).all noX = true then .nx (outS ρ n) else .stuck
  | .rt d => .rt d
  | _ => .stuck
def hdl (I : Info) (F : FT) : List Hd → Nat → Option D → List Sl → O
  | [], c, f, ρ => .ex c f ρ
  | h :: r, c, f, ρ => match I.exs[c]? with
    | none => .stuck
    | some xi => if xi.up.contains h.c = true then finS (h.n.map (·.1)) (xsu I F h.s (inS ρ (h.n.map (·.1)) c f)) else hdl I F r c f ρ
/-- what flies is looked at by the clauses -/
def O.catch (o : O) (k : Nat → Option D → List Sl → O) : O := match o with
  | .ex c f ρ => k c f ρ
  | .nx ρ => .nx ρ
  | .rt d => .rt d
  | .bk ρ => .bk ρ
  | .ct ρ => .ct ρ
  | .stuck => .stuck
mutual
@[simp] def exs (I : Info) (F : FT) : S → List Sl → O
  | .expr e _ => fun ρ => onR ((ev I F e).v ρ) ρ fun _ => .nx ρ
  | .app i _ e _ _ _ _ => fun ρ => match ρ[i]? with
    | some (.own ds) => onR ((ev I F e).v ρ) ρ fun d => if ds.length < lim then .nx (ρ.set i (.own (ds ++ [d]))) else .stuck
    | _ => .stuck
  | .ext i _ e _ _ _ _ => fun ρ => match ρ[i]? with
    | some (.own ds) => onR ((ev I F e).v ρ) ρ fun d => match d with
      | .list es => if ds.length + es.length ≤ lim then .nx (ρ.set i (.own (ds ++ es))) else .stuck
      | _ => .stuck
    | _ => .stuck
  | .ins i _ a b _ _ _ _ => fun ρ => match ρ[i]? with
    | some (.own ds) => onR ((evs I F (.cons a (.cons b .nil))).l ρ) ρ fun vs => match vs with
      | [.int n, d] => if ds.length < lim ∧ 0 ≤ n ∧ n ≤ 1000000 then .nx (ρ.set i (.own (ds.take n.toNat ++ [d] ++ ds.drop n.toNat))) else .stuck
      | _ => .stuck
    | _ => .stuck
  | .set i _ e _ _ => fun ρ => onR ((ev I F e).v ρ) ρ fun d => .nx (setS ρ i d)
  | .setF i _ e _ _ => fun ρ => onR (evf I F e ρ) ρ fun ds => .nx (ρ.set i (.own ds))
  | .par i _ _ j _ _ _ _ a b _ _ _ => fun ρ => onR ((evs I F (.cons a (.cons b .nil))).l ρ) ρ fun ds => match ds with
    | [d, e] => .nx (setS (setS ρ i d) j e)
    | _ => .stuck
  | .par3 i _ _ j _ _ l _ _ _ _ a b c _ _ _ => fun ρ => onR ((evs I F (.cons a (.cons b (.cons c .nil)))).l ρ) ρ fun ds => match ds with
    | [d, e, f] => .nx (setS (setS (setS ρ i d) j e) l f)
    | _ => .stuck
  | .unp tg e _ => fun ρ => onR ((ev I F e).v ρ) ρ fun d => match tg.set d ρ with
    | some ρ' => .nx ρ'
    | none => .stuck
  | .aug i _ e _ _ => fun ρ => match ρ[i]? with
    | some (.dat (.int n)) => onR ((ev I F e).v ρ) ρ fun d => match d with
      | .int m => .nx (setS ρ i (.int (n + m)))
      | _ => .stuck
    | _ => .stuck
  | .ite t a b _ => fun ρ => onR ((ev I F t).t ρ) ρ fun k => if k = true then exb I F a ρ else exb I F b ρ
  | .for_ tg it b _ => fun ρ => onR (evi I F it ρ) ρ fun ds => forS (fun d ρ => tg.set d ρ) (exb I F b) ds ρ
  | .while_ t b _ => fun ρ => whileS (ev I F t).t (exb I F b) turns ρ
  | .ret e _ => fun ρ => onR ((ev I F e).v ρ) ρ fun d => .rt d
  | .rais c _ _ _ _ _ _ _ => fun ρ => .ex c none ρ
  | .raisF c _ e _ _ _ => fun ρ => onR ((ev I F e).v ρ) ρ fun d => .ex c (some d) ρ
  | .try_ b hs _ => fun ρ => (exb I F b ρ).catch (hdl I F hs)
  | .brk _ => fun ρ => .bk ρ
  | .cont _ => fun ρ => .ct ρ
  | .pass _ => fun ρ => .nx ρ
@[simp] def exb (I : Info) (F : FT) : Ss → List Sl → O
  | .nil => fun ρ => .nx ρ
  | .cons s r => fun ρ => (exs I F s ρ).seq (exb I F r)
  | .fz i r => fun ρ => match ρ[i]? with
    | some (.own ds) => exb I F r (setS ρ i (.list ds))
    | _ => exb I F r ρ
end
def O.out : O → R D
  | .rt d => .ok d
  | .nx _ => .ok .none
  | .ex c f _ => .exc c f
  | _ => .stuck
/-- a def's body: n slots, the arguments first -/
@[simp] def runB (I : Info) (F : FT) (n : Nat) (b : Ss) (args : List D) : R D := (exb I F b (args.map Sl.dat ++ List.replicate (n - args.length) Sl.no)).out

/-! ### well written -/
def isTup : E → Bool
  | .tup .. => true
  | _ => false
def isLoc (sc : Scope) (x : Str) : Bool := match sc.names.lookup x with
  | some .local => true
  | _ => false
def compOk (sc : Scope) (x : Str) (px : Pos) : E → Bool
  | .comp _ _ _ _ sc' _ p => isLoc sc x && (px.line == p.line) && !(sc'.names.any fun (n, k) => n == x && (k == .local || k == .cell))
  | _ => true
def Fe.wf (I : Info) (N : List Str) (sc : Scope) : Fe → Bool
  | .lst es _ => es.wf I N sc true && decide (es.len ≤ 100)
  | .ife t a b _ _ _ => t.wf I N sc true && a.wf I N sc true && decide (a.len ≤ 100) && b.wf I N sc true && decide (b.len ≤ 100)
def Su.wf (I : Info) (N : List Str) (sc : Scope) : Su → Bool
  | .nil => true
  | .ret e _ => e.wf I N sc false
  | .set i x e _ _ r => decide (N[i]? = some x) && locB sc x && e.wf I N sc false && !isComp e && r.wf I N sc
def Su.ne : Su → Bool
  | .nil => false
  | _ => true
def Hd.wf (I : Info) (N : List Str) (sc : Scope) (h : Hd) : Bool :=
  glB sc h.y && okNm h.y && decide (h.c ≠ 99) && decide (nmOf I h.c = some h.y) && h.s.wf I N sc && h.s.ne && (match h.n with
    | none => true
    | some (i, x) => decide (N[i]? = some x) && isLoc sc x)
mutual
def S.wf (I : Info) (N : List Str) (sc : Scope) : S → Bool
  | .expr e _ => e.wf I N sc true && !isComp e
  | .app i x e _ pa pc _ => decide (N[i]? = some x) && visB sc x && okNm x && e.wf I N sc true && (pa.endLine == pc.line)
  | .ext i x e _ pa pc _ => decide (N[i]? = some x) && visB sc x && okNm x && e.wf I N sc true && (pa.endLine == pc.line)
  | .ins i x a b _ pa pc _ => decide (N[i]? = some x) && visB sc x && okNm x && a.wf I N sc true && b.wf I N sc true && (pa.endLine == pc.line)
  | .set i x e _ _ => decide (N[i]? = some x) && locB sc x && e.wf I N sc true
  | .setF i x e _ _ => decide (N[i]? = some x) && locB sc x && e.wf I N sc
  | .par i x px j y py _ _ a b _ _ _ => decide (N[i]? = some x) && isLoc sc x && decide (N[j]? = some y) && isLoc sc y && decide (i ≠ j) && decide (x ≠ y) && a.wf I N sc true && b.wf I N sc true && (py.line == px.line) &&
      !([a.py, b.py].all (foldedForSure 8)) && !([a.py, b.py].all (constantsAlone 8))
  | .par3 i x px j y py l z pz _ _ a b c _ _ _ => decide (N[i]? = some x) && isLoc sc x && decide (N[j]? = some y) && isLoc sc y && decide (N[l]? = some z) && isLoc sc z && decide (i ≠ j) && decide (i ≠ l) && decide (j ≠ l) && decide (x ≠ y) && decide (x ≠ z) && decide (y ≠ z) &&
      a.wf I N sc true && b.wf I N sc true && c.wf I N sc true && (py.line == px.line) && (pz.line == px.line) && !([a.py, b.py, c.py].all (foldedForSure 8)) && !([a.py, b.py, c.py].all (constantsAlone 8))
  | .unp tg e _ => tg.wf N sc && tg.isTwo && e.wf I N sc true && !isTup e && !isComp e
  | .aug i x e _ _ => decide (N[i]? = some x) && locB sc x && okNm x && e.wf I N sc true
  | .ite t a b _ => t.wf I N sc true && a.wf I N sc && b.wf I N sc
  | .for_ tg it b _ => tg.wf N sc && it.wf I N sc true && (match it with
      | .enum .. => tg.isTwo
      | .zip .. => tg.isTwo
      | _ => true) && b.wf I N sc
  | .while_ t b _ => t.wf I N sc true && b.wf I N sc
  | .ret e _ => e.wf I N sc true
  | .rais c y _ _ _ _ _ _ => glB sc y && okNm y && (match I.exs[c]? with
      | some xi => decide (xi.name = y) && xi.field.isNone
      | none => false)
  | .raisF c y e _ _ _ => glB sc y && okNm y && e.wf I N sc true && (match I.exs[c]? with
      | some xi => decide (xi.name = y) && xi.field.isSome
      | none => false)
  | .try_ b hs _ => b.wf I N sc && hs.all (Hd.wf I N sc) && !hs.isEmpty
  | .brk _ => true
  | .cont _ => true
  | .pass _ => true
def Ss.wf (I : Info) (N : List Str) (sc : Scope) : Ss → Bool
  | .nil => true
  | .cons s r => s.wf I N sc && r.wf I N sc
  | .fz _ r => r.wf I N sc
end
end CH

/-! CH 13: the state of a body; the statements' rules. -/
namespace CH
open PySem PySem.Spec PyProof.Rows L2

/-- the entry's heaps B0, H0; the heaps and slots now -/
structure SInv (w : Wd) (B0 H0 B H : Hp) (σ : L2.St) (ρ : List Sl) : Prop where
  ext : Ext B0 H0 B H
  rel : Rel w.K w.sx B H σ ρ
  fr : ∀ (i : Nat) (ds : List D) (a : Addr), ρ[i]? = some (Sl.own ds) → σ[i]? = some (some (V.ref a)) → H0 a = none
theorem SInv.grow {w : Wd} {B0 H0 B H B' H' : Hp} {σ : L2.St} {ρ : List Sl} (s : SInv w B0 H0 B H σ ρ) (e : Ext B H B' H') : SInv w B0 H0 B' H' σ ρ := ⟨s.ext.trans e, s.rel.ext e, s.fr⟩
theorem SInv.setD {w : Wd} {B0 H0 B H : Hp} {σ : L2.St} {ρ : List Sl} (s : SInv w B0 H0 B H σ ρ) (i : Nat) {v : V} {d : D} (h : Dp w.K B v d) : SInv w B0 H0 B H (σ.set i (some v)) (setS ρ i d) := by
  refine ⟨s.ext, s.rel.setD i h, fun j ds a h1 h2 => ?_⟩
  rcases get_set h1 with ⟨_, e⟩ | ⟨n, h1⟩
  · cases e
  · rw [List.getElem?_set_ne (Ne.symm n)] at h2
    exact s.fr j ds a h1 h2
/-- a list of one's own is changed -/
theorem SInv.mut {w : Wd} {B0 H0 B H : Hp} {σ : L2.St} {ρ : List Sl} (s : SInv w B0 H0 B H σ ρ) {i : Nat} {ds es : List D} {a : Addr} {xs ys : List V} (ho : ρ[i]? = some (.own ds)) (hσ : σ[i]? = some (some (.ref a))) (hH : H a = some (.lst xs)) (hB : B a = none) (hy : DpAll w.K B ys es) :
    SInv w B0 H0 B (upd H a (.lst ys)) σ (ρ.set i (.own es)) := by
  have f0 := s.fr i ds a ho hσ
  have hl : i < ρ.length := (List.getElem?_eq_some_iff.mp ho).1
  have old : ∀ {j : Nat} {ds' : List D}, (ρ.set i (.own es))[j]? = some (.own ds') → ∃ ds'', ρ[j]? = some (.own ds'') := fun {j ds'} h => by
    rcases get_set h with ⟨rfl, _⟩ | ⟨_, h⟩
    · exact ⟨_, ho⟩
    · exact ⟨_, h⟩
  refine ⟨⟨s.ext.bb, fun b o e => ?_, fun b o e => ?_, s.ext.nb⟩, ⟨by rw [List.length_set]; exact s.rel.len, fun b o e => ?_, fun j d h => ?_, fun j ds' h => ?_, fun j k ds1 ds2 b h1 h2 h3 h4 => ?_, fun j c f h => ?_⟩, fun j ds' b h1 h2 => ?_⟩
  · rw [upd_ne (ne_of_none e f0)]
    exact s.ext.hh b o e
  · rw [upd_ne (ne_of_none e hB)]
    exact s.ext.bh b o e
  · rw [upd_ne (ne_of_none e hB)]
    exact s.rel.sub b o e
  · rcases get_set h with ⟨_, e⟩ | ⟨_, h⟩
    · cases e
    · exact s.rel.dat j d h
  · rcases get_set h with ⟨rfl, e⟩ | ⟨n, h⟩
    · cases e
      exact ⟨a, ys, hσ, upd_same, hB, hy⟩
    · obtain ⟨b, zs, h1, h2, h3, h4⟩ := s.rel.own j ds' h
      refine ⟨b, zs, h1, ?_, h3, h4⟩
      have nb : b ≠ a := fun z => by
        subst z
        exact n (s.rel.sep j i ds' ds b h ho h1 hσ)
      rw [upd_ne nb]
      exact h2
  · obtain ⟨d1, e1⟩ := old h1
    obtain ⟨d2, e2⟩ := old h2
    exact s.rel.sep j k d1 d2 b e1 e2 h3 h4
  · rcases get_set h with ⟨_, e⟩ | ⟨_, h⟩
    · cases e
    · exact s.rel.exc j c f h
  · obtain ⟨d1, e1⟩ := old h1
    exact s.fr j d1 b e1 h2
/-- a new list of one's own -/
theorem SInv.new {w : Wd} {B0 H0 B H : Hp} {σ : L2.St} {ρ : List Sl} (s : SInv w B0 H0 B H σ ρ) (i : Nat) {ds : List D} {p : Addr} {xs : List V} (np : H p = none) (hx : DpAll w.K B xs ds) : SInv w B0 H0 B (upd H p (.lst xs)) (σ.set i (some (.ref p))) (ρ.set i (.own ds)) := by
  have nB := s.rel.sub.free np
  have nH0 := s.ext.hh.free np
  have hlen := s.rel.len
  refine ⟨⟨s.ext.bb, s.ext.hh.trans (upd_free np), s.ext.bh.trans (upd_free np), s.ext.nb⟩, ⟨by rw [List.length_set, List.length_set]; exact hlen, s.rel.sub.trans (upd_free np), fun j d h => ?_, fun j ds' h => ?_, fun j k ds1 ds2 b h1 h2 h3 h4 => ?_, fun j c f h => ?_⟩, fun j ds' b h1 h2 => ?_⟩
  · rcases get_set h with ⟨_, e⟩ | ⟨n, h⟩
    · cases e
    · obtain ⟨v, h1, h2⟩ := s.rel.dat j d h
      exact ⟨v, by rw [List.getElem?_set_ne (Ne.symm n)]; exact h1, h2⟩
  · rcases get_set h with ⟨rfl, e⟩ | ⟨n, h⟩
    · cases e
      have hl := (List.getElem?_eq_some_iff.mp h).1
      rw [List.length_set] at hl
      exact ⟨p, xs, by rw [List.getElem?_set_self (by omega)], upd_same, nB, hx⟩
    · obtain ⟨b, zs, h1, h2, h3, h4⟩ := s.rel.own j ds' h
      exact ⟨b, zs, by rw [List.getElem?_set_ne (Ne.symm n)]; exact h1, by rw [upd_ne (ne_of_none h2 np)]; exact h2, h3, h4⟩
  · have key : ∀ {j : Nat} {d1 : List D} {b : Addr}, (ρ.set i (.own ds))[j]? = some (.own d1) → (σ.set i (some (.ref p)))[j]? = some (some (.ref b)) → (j = i ∧ b = p) ∨ (j ≠ i ∧ b ≠ p ∧ ρ[j]? = some (.own d1) ∧ σ[j]? = some (some (.ref b))) := fun {j d1 b} h1 h2 => by
      rcases get_set h1 with ⟨rfl, e⟩ | ⟨n, h1⟩
      · have hl := (List.getElem?_eq_some_iff.mp h2).1
        rw [List.length_set] at hl
        rw [List.getElem?_set_self hl] at h2
        cases h2
        exact .inl ⟨rfl, rfl⟩
      · rw [List.getElem?_set_ne (Ne.symm n)] at h2
        obtain ⟨b', zs, h3, h4, _⟩ := s.rel.own j d1 h1
        rw [h2] at h3
        cases h3
        exact .inr ⟨n, ne_of_none h4 np, h1, h2⟩
    rcases key h1 h3 with ⟨e1, e2⟩ | ⟨n1, n2, e1, e2⟩
    · rcases key h2 h4 with ⟨e3, e4⟩ | ⟨n3, n4, _, _⟩
      · rw [e1, e3]
      · exact absurd e2 n4
    · rcases key h2 h4 with ⟨e3, e4⟩ | ⟨n3, n4, e3, e4⟩
      · exact absurd e4 n2
      · exact s.rel.sep j k ds1 ds2 b e1 e3 e2 e4
  · rcases get_set h with ⟨_, e⟩ | ⟨n, h⟩
    · cases e
    · obtain ⟨a, dx, nm, h1, h2, h3⟩ := s.rel.exc j c f h
      exact ⟨a, dx, nm, h1, by rw [List.getElem?_set_ne (Ne.symm n)]; exact h2, h3⟩
  · rcases get_set h1 with ⟨rfl, e⟩ | ⟨n, h1⟩
    · have hl := (List.getElem?_eq_some_iff.mp h2).1
      rw [List.length_set] at hl
      rw [List.getElem?_set_self hl] at h2
      cases h2
      exact nH0
    · rw [List.getElem?_set_ne (Ne.symm n)] at h2
      exact s.fr j ds' b h1 h2
/-- a list of one's own is never changed again -/
theorem SInv.fz {w : Wd} {B0 H0 B H : Hp} {σ : L2.St} {ρ : List Sl} (s : SInv w B0 H0 B H σ ρ) {i : Nat} {ds : List D} (ho : ρ[i]? = some (.own ds)) : ∃ B', SInv w B0 H0 B' H σ (setS ρ i (.list ds)) := by
  obtain ⟨a, xs, hσ, hH, hB, hx⟩ := s.rel.own i ds ho
  have f0 := s.fr i ds a ho hσ
  have sB : Same B (upd B a (.lst xs)) := upd_free hB
  refine ⟨upd B a (.lst xs), ⟨s.ext.bb.trans sB, s.ext.hh, fun b o e => ?_, fun b h n => ?_⟩, ⟨by show σ.length = (ρ.set i _).length; rw [List.length_set]; exact s.rel.len, fun b o e => ?_, fun j d h => ?_, fun j ds' h => ?_, fun j k ds1 ds2 b h1 h2 h3 h4 => ?_, fun j c f h => ?_⟩, fun j ds' b h1 h2 => ?_⟩
  · by_cases hb : b = a
    · rw [hb, upd_same] at e
      rw [hb, hH]; exact e
    · rw [upd_ne hb] at e
      exact s.ext.bh b o e
  · have hb : b ≠ a := fun z => h (z ▸ f0)
    rw [upd_ne hb]
    exact s.ext.nb b h n
  · by_cases hb : b = a
    · rw [hb, upd_same] at e
      rw [hb, hH]; exact e
    · rw [upd_ne hb] at e
      exact s.rel.sub b o e
  · rcases get_set h with ⟨rfl, e⟩ | ⟨_, h⟩
    · cases e
      exact ⟨.ref a, hσ, .lst (.inl (.inl upd_same)) (hx.same sB)⟩
    · obtain ⟨v, h1, h2⟩ := s.rel.dat j d h
      exact ⟨v, h1, h2.same sB⟩
  · rcases get_set h with ⟨_, e⟩ | ⟨n, h⟩
    · cases e
    · obtain ⟨b, zs, h1, h2, h3, h4⟩ := s.rel.own j ds' h
      have nb : b ≠ a := fun z => by
        subst z
        exact n (s.rel.sep j i ds' ds b h ho h1 hσ)
      exact ⟨b, zs, h1, h2, by rw [upd_ne nb]; exact h3, h4.same sB⟩
  · rcases get_set h1 with ⟨_, e⟩ | ⟨_, h1⟩
    · cases e
    · rcases get_set h2 with ⟨_, e⟩ | ⟨_, h2⟩
      · cases e
      · exact s.rel.sep j k ds1 ds2 b h1 h2 h3 h4
  · rcases get_set h with ⟨_, e⟩ | ⟨_, h⟩
    · cases e
    · obtain ⟨b, dx, nm, h1, h2, h3⟩ := s.rel.exc j c f h
      refine ⟨b, dx, nm, h1, h2, h3.1, fun d hd => ?_⟩
      obtain ⟨x, v, h4, h5, h6⟩ := h3.2 d hd
      exact ⟨x, v, h4, sB _ _ h5, h6.same sB⟩
  · rcases get_set h1 with ⟨_, e⟩ | ⟨_, h1⟩
    · cases e
    · exact s.fr j ds' b h1 h2

def EvS (w : Wd) (B0 H0 : Hp) (D : Ends) : O → Prop
  | .nx ρ => ∀ B H σ, SInv w B0 H0 B H σ ρ → D.nx σ H
  | .rt d => ∀ B H v, Ext B0 H0 B H → Dp w.K B v d → D.rt v H
  | .bk ρ => ∀ B H σ, SInv w B0 H0 B H σ ρ → D.bk σ H
  | .ct ρ => ∀ B H σ, SInv w B0 H0 B H σ ρ → D.ct σ H
  | .ex c f ρ => ∀ cls dx B H σ, SInv w B0 H0 B H σ ρ → ExcAt w.K w.ct B c f cls dx → w.W cls dx σ H
  | .stuck => False
def tS (w : Wd) (m : List Sl → O) : TS := fun D σ H => ∃ B0 H0 B ρ, SInv w B0 H0 B H σ ρ ∧ EvS w B0 H0 D (m ρ)

/-- a piece, then on -/
theorem sR {w : Wd} {B0 H0 B H : Hp} {σ : L2.St} {ρ : List Sl} {m : M D} {k : D → O} {E : Ends} (s : SInv w B0 H0 B H σ ρ) (h : EvS w B0 H0 E (onR (m ρ) ρ k)) :
    tE w m σ H (fun v H' => ∃ d B', m ρ = .ok d ∧ Ext B H B' H' ∧ SInv w B0 H0 B' H' σ ρ ∧ Dp w.K B' v d ∧ EvS w B0 H0 E (k d)) := by
  refine ⟨B, ρ, s.rel, ?_⟩
  cases e : m ρ with
  | ok d =>
    rw [e] at h
    exact fun v B' H' x hd => ⟨d, B', rfl, x, s.grow x, hd, h⟩
  | exc c f =>
    rw [e] at h
    exact fun cls dx B' H' x hx => h cls dx B' H' σ (s.grow x) hx
  | stuck => rw [e] at h; exact h
theorem sRT {w : Wd} {B0 H0 B H : Hp} {σ : L2.St} {ρ : List Sl} {m : M Bool} {k : Bool → O} {E : Ends} (s : SInv w B0 H0 B H σ ρ) (h : EvS w B0 H0 E (onR (m ρ) ρ k)) :
    tT w m σ H (fun b H' => ∃ B', m ρ = .ok b ∧ Ext B H B' H' ∧ SInv w B0 H0 B' H' σ ρ ∧ EvS w B0 H0 E (k b)) := by
  refine ⟨B, ρ, s.rel, ?_⟩
  cases e : m ρ with
  | ok d =>
    rw [e] at h
    exact fun B' H' x => ⟨B', rfl, x, s.grow x, h⟩
  | exc c f =>
    rw [e] at h
    exact fun cls dx B' H' x hx => h cls dx B' H' σ (s.grow x) hx
  | stuck => rw [e] at h; exact h
theorem sRA {w : Wd} {B0 H0 B H : Hp} {σ : L2.St} {ρ : List Sl} {m : M (List D)} {k : List D → O} {E : Ends} (s : SInv w B0 H0 B H σ ρ) (h : EvS w B0 H0 E (onR (m ρ) ρ k)) :
    tA w m σ H (fun vs H' => ∃ ds B', m ρ = .ok ds ∧ Ext B H B' H' ∧ SInv w B0 H0 B' H' σ ρ ∧ DpAll w.K B' vs ds ∧ EvS w B0 H0 E (k ds)) := by
  refine ⟨B, ρ, s.rel, ?_⟩
  cases e : m ρ with
  | ok d =>
    rw [e] at h
    exact fun v B' H' x hd => ⟨d, B', rfl, x, s.grow x, hd, h⟩
  | exc c f =>
    rw [e] at h
    exact fun cls dx B' H' x hx => h cls dx B' H' σ (s.grow x) hx
  | stuck => rw [e] at h; exact h
theorem sRI {w : Wd} {B0 H0 B H : Hp} {σ : L2.St} {ρ : List Sl} {m : M (List D)} {k : List D → O} {E : Ends} (s : SInv w B0 H0 B H σ ρ) (h : EvS w B0 H0 E (onR (m ρ) ρ k)) :
    tI w m σ H (fun J H' => ∃ ds B', m ρ = .ok ds ∧ SInv w B0 H0 B' H' σ ρ ∧ Wk w.K J ds B' ∧ EvS w B0 H0 E (k ds)) := by
  refine ⟨B, ρ, s.rel, ?_⟩
  cases e : m ρ with
  | ok d =>
    rw [e] at h
    exact fun J B' H' x wk => ⟨d, B', rfl, s.grow x, wk, h⟩
  | exc c f =>
    rw [e] at h
    exact fun cls dx B' H' x hx => h cls dx B' H' σ (s.grow x) hx
  | stuck => rw [e] at h; exact h
end CH

/-! CH 14: statements do what they come to. -/
namespace CH
open PySem PySem.Spec PyProof.Rows L2

/-! ### list.extend by a list that is not of one's own -/
theorem list_extendW (l : Addr) (items : Array Value) (n : Nat) (b : Addr) (items2 : Array Value) (n2 : Nat) (dd2 : Option Addr) (sl2 : Array (Option Value)) (hc0 : ¬(!items.isEmpty && Builtin.List.listTooLong (items.size + items2.size)) = true) (hc1 : items.size ≤ sizeLine) (hs2 : items.size + items2.size ≤ sizeLine + 1) :
    Meets (Builtin.«list.extend» ⟨[.ref l, .ref b], []⟩) (fun _ R s => s.heap.get? l = some { cls := .type "list", dict := none, data := .seq items n, slots := #[] } ∧ s.heap.get? b = some { cls := .type "list", dict := dd2, data := .seq items2 n2, slots := sl2 } ∧ R (.ok (.ret Value.none)) { s with heap := s.heap.update l (Obj.mapSeq fun x => x ++ items2), toks := s.toks }) :=
  .of_wp fun prog w A R s h => by
    obtain ⟨hp, g, d, tk, os⟩ := s; obtain ⟨hl, hb, h⟩ := h; have f1 := AutoSeq1.idx_int; have f2 := AutoSeq1.sub_tuple_tuple; have f3 := AutoSeq1.sub_list_list; have f4 := AutoSeq1.sub_tuple_list; have f5 := AutoSeq1.sub_list_tuple;
    have hz' : (items ++ items2).size ≤ sizeLine + 1 := by rw [Array.size_append]; exact hs2
    wp_walk using (wpAny_updateSeq hl rfl (hz := hc1) (_hz' := hz')), AutoSeq1.wpAny_loadPart' hl, AutoSeq1.wpAny_loadPart' hb
    exact ⟨_, rfl, h⟩
def rExtW (K : PySem.W.Frag) : V → List V → Hp → VK → Prop := fun x vs H Q => ∃ l b xs zs, x = .ref l ∧ vs = [.ref b] ∧ H l = some (.lst xs) ∧ SqL K H b zs ∧ xs.length + zs.length ≤ sizeLine ∧ Q .non (upd H l (.lst (xs ++ zs)))
theorem mt_extW {X : Cx} : MtM X "list.extend" (rExtW X.K) := by
  intro pins s σ H x vs v us Q I rx rv h
  obtain ⟨l, b, xs, zs, rfl, rfl, hH, hB, hz, q⟩ := h
  cases rx
  obtain ⟨u, rfl, ru⟩ := rv.one
  cases ru
  obtain ⟨z, its, n, r, hl, e⟩ := I.lstM hH
  obtain ⟨its2, r2, ⟨⟨c2, d2, dt2, sl2⟩, n2, e2, hc2, _, hd2⟩, z2⟩ := I.list hB
  simp only at hc2 hd2
  subst hc2 hd2
  have hl2 := r2.length
  have hsz : its.toArray.size + its2.toArray.size ≤ sizeLine := by rw [List.size_toArray, List.size_toArray]; omega
  have hlong : ¬ (!its.toArray.isEmpty && Builtin.List.listTooLong (its.toArray.size + its2.toArray.size)) = true := by
    rw [notLongL hsz, Bool.and_false]
    exact Bool.false_ne_true
  refine call_meets F.slot_list_extend ⟨_, e, rfl⟩ F.entry_list_extend (F.args_list_extend_2 _ _)
    (list_extendW l its.toArray n b its2.toArray n2 d2 sl2 hlong (by rw [List.size_toArray]; omega) (by omega)) ⟨e, e2, ?_⟩
  refine ⟨.non, _, I.lset (its' := its ++ its2) hH e (by simp) (r.append r2) ?_, rfl, q⟩
  rw [List.length_append]
  omega

/-! ### the context of statements -/
/-- C.__init__: the field f is set -/
def spIni (C : Addr) (f : Str) : Sp := fun vs H Q E => ∃ a y, vs = [.ref a, y] ∧ H a = some (exo a C none) ∧ ∀ d, H d = none → d ≠ a → Q .non (upd (upd H d (exd d [(f, y)])) a (exo a C (some d)))
/-- what is known of an exception class of the table -/
structure ExF (I : Info) (X : Cx) (ct : Nat → Option (Addr × Str)) (c : Nat) (xi : XInfo) (C : Addr) (nm : Str) : Prop where
  at_ : ct c = some (C, nm)
  mg : X.mg xi.name = some (.ref C)
  kp : PySem.W.keepIn X.K (.ref C) = true
  ra : Raises X (.ref C)
  plain : xi.field = none → ∃ B newId initId bmB, ExcBaseFacts B newId initId bmB ∧ PySem.W.excIn X.K C bmB newId = true
  ec : L2.ExcC X.K C
  fld : ∀ f, xi.field = some f → f = nm ∧ PySem.W.findIn X.K (.ref C) f = some none
  em : ∀ (cc : Nat) (yi : XInfo) (D : Addr) (nm' : Str), I.exs[cc]? = some yi → ct cc = some (D, nm') → PySem.W.exmOne X.K (.ref C) (.ref D) = some (xi.up.contains cc) ∧ PySem.W.kitOne X.K (.ref C) (.ref D) = some (xi.up.contains cc)
  ve : PySem.W.kitOne X.K (.ref C) (.type "ValueError") = some (xi.up.contains 99)
  ini : ∀ f, xi.field = some f → OexC X.K C ∧ ∃ fI fd, PySem.W.findIn X.K (.ref C) "__init__" = some (some (.ref fI)) ∧ PySem.W.typeIn X.K (.ref fI) = some (.type "function") ∧
    FnOk X.prog X.w X.K X.mg X.base (L2.CX X.prog X.w) 5 fI fd ["self", f] (spIni C f) ∧ Binds X.K fd ["self", f] []
structure CtxS (I : Info) (w : Wd) (X : Cx) : Prop where
  calm : X.calm = true
  pass : PassesOwn (model X.prog X.w) X.A X.env X.xe
  kind : X.env.scope.kind = .function
  stk : X.stack = X.env :: X.outer
  frm : X.env.frame = some X.env.locals
  sx : w.sx = none
  vn : X.mg "ValueError" = none
  exc : ∀ (c : Nat) (xi : XInfo), I.exs[c]? = some xi → ∃ C nm, ExF I X w.ct c xi C nm

section
variable {I : Info} {sc : Scope} {N : List Str} {k : Nat} {F : FT} {w : Wd} {X : Cx}
theorem CtxOk.isL (C : CtxOk I sc N k F w X) {x : Str} (h : isLoc sc x = true) : X.env.scope.names.lookup x = some .local := by
  unfold isLoc at h
  split at h
  · rename_i e
    exact C.sc1 x _ e (by decide)
  · cases h
theorem CtxOk.at (C : CtxOk I sc N k F w X) {i : Nat} {x : Str} (h : N[i]? = some x) : X.N[i]? = some x := by rw [C.hN]; exact h
theorem CtxOk.ndX (C : CtxOk I sc N k F w X) : X.N.Nodup := by rw [C.hN]; exact C.nd
end

/-! ### stores of pairs -/
theorem star_none : ∀ es : Es, (es.py.any fun | .Starred .. => true | _ => false) = false
  | .nil => rfl
  | .cons a r => by
    rw [Es.py, List.any_cons, star_none r, Bool.or_false]
    cases a <;> rfl
theorem blk_fn {env : Env} (h : env.scope.kind = .function) : env.blockKind = .function := by
  unfold Env.blockKind
  rw [h]; rfl
theorem kind_of {env : Env} {x : Str} (h : env.scope.names.lookup x = some .local) : (env.kindOf x == some .local) = true := by
  have e : env.kindOf x = some .local := h
  rw [e]; rfl
theorem sw_par {env : Env} (hk : env.scope.kind = .function) {x y : Str} {px py pt pv : Pos} {kt kv : Nat} {a b : E} (hx : env.scope.names.lookup x = some .local) (hy : env.scope.names.lookup y = some .local) (hn : x ≠ y) (hl : (py.line == px.line) = true)
    (h1 : [a.py, b.py].all (foldedForSure 8) = false) (h2 : [a.py, b.py].all (constantsAlone 8) = false) :
    swappedStores [.Tuple [.Name x px, .Name y py] kt pt] (.Tuple [a.py, b.py] kv pv) env = pure (some [x, y]) := by
  have hs := star_none (.cons a (.cons b .nil))
  have hs : ([a.py, b.py].any fun | .Starred .. => true | _ => false) = false := hs
  have hb := blk_fn hk
  unfold swappedStores
  simp only [List.length_cons, List.length_nil, hb, hs, List.filterMap_cons, List.filterMap_nil, kind_of hx, kind_of hy, List.head?_cons, Option.map_some, Option.getD_some, Expr.pos, hl, beq_self_eq_true, h1, h2]
  have e : ([x, y] : List Str).eraseDups = [x, y] := by
    rw [List.eraseDups_cons]
    have : (y == x) = false := by simpa using fun z => hn z.symm
    simp [this]
    rw [List.eraseDups_cons]; simp
  simp [e]
  intro h
  rcases h with h | h
  · cases a <;> cases h
  · cases b <;> cases h
theorem sw_par3 {env : Env} (hk : env.scope.kind = .function) {x y z : Str} {px py pz pt pv : Pos} {kt kv : Nat} {a b c : E} (hx : env.scope.names.lookup x = some .local) (hy : env.scope.names.lookup y = some .local) (hz : env.scope.names.lookup z = some .local)
    (hn : x ≠ y) (hn2 : x ≠ z) (hn3 : y ≠ z) (hl : (py.line == px.line) = true) (hl2 : (pz.line == px.line) = true)
    (h1 : [a.py, b.py, c.py].all (foldedForSure 8) = false) (h2 : [a.py, b.py, c.py].all (constantsAlone 8) = false) :
    swappedStores [.Tuple [.Name x px, .Name y py, .Name z pz] kt pt] (.Tuple [a.py, b.py, c.py] kv pv) env = pure (some [x, y, z]) := by
  have hs := star_none (.cons a (.cons b (.cons c .nil)))
  have hs : ([a.py, b.py, c.py].any fun | .Starred .. => true | _ => false) = false := hs
  have hb := blk_fn hk
  unfold swappedStores
  simp only [List.length_cons, List.length_nil, hb, hs, List.filterMap_cons, List.filterMap_nil, kind_of hx, kind_of hy, kind_of hz, List.head?_cons, Option.map_some, Option.getD_some, Expr.pos, hl, hl2, beq_self_eq_true, h1, h2]
  have e : ([x, y, z] : List Str).eraseDups = [x, y, z] := by
    have e1 : (y == x) = false := by simpa using fun z => hn z.symm
    have e2 : (z == x) = false := by simpa using fun z => hn2 z.symm
    have e3 : (z == y) = false := by simpa using fun z => hn3 z.symm
    rw [List.eraseDups_cons]
    simp [e1, e2]
    rw [List.eraseDups_cons]
    simp [e3]
    rw [List.eraseDups_cons]; simp
  simp [e]
  intro h
  rcases h with h | h | h
  · cases a <;> cases h
  · cases b <;> cases h
  · cases c <;> cases h
/-! ### suites -/
theorem PE.weak {X : Cx} {e : Expr} {t : TE} (h : PE X e t) : PE X e (fun σ H Q => ∃ Q', t σ H Q' ∧ ∀ v H', Q' v H' → Q v H') :=
  ⟨fun pins s σ H Q J ⟨Q', q, i⟩ => thn (h.run pins s σ H Q' J q) fun u s1 ⟨v, H1, J1, r1, q1⟩ => ⟨v, H1, J1, r1, i v H1 q1⟩⟩
section
variable {X : Cx} {a C : Addr} {oe : Obj} {d : Option Addr} {pn : List (Addr × Obj)}
/-- isinstance(e, c), e the exception in hand -/
theorem call_isC (T : L2.ExcC X.K C) (hz : Zc (.ref C) d oe) (hf : ∃ vs, oe.data = .fields vs) {cV : V} {cv : Value} {b : Bool} (hcv : ∀ u, RelV cV u → u = cv) (hk : PySem.W.kitOne X.K (.ref C) cv = some b) :
    CallR (X.suite a ((a, oe) :: pn)) (.builtin "isinstance") (fun xs H Q => xs = [.ref a, cV] ∧ (∀ dd, d = some dd → ∃ fs, H dd = some (.xd fs)) ∧ Q (.bl b) H) := by
  intro pins s σ H xs us Q J r h
  obtain ⟨rfl, hd, q⟩ := h
  cases r with
  | cons r1 rr =>
    cases rr with
    | cons r2 rr =>
      cases rr
      cases r1
      have e2 := hcv _ r2
      subst e2
      obtain ⟨hget, _⟩ := J.pin (a, oe) (List.mem_append_left _ List.mem_cons_self)
      obtain ⟨vs, hv⟩ := hf
      have IA : ∃ od, PySem.W.InstAt s.heap a oe C od := by
        obtain ⟨oc, odd, oda, osl⟩ := oe
        obtain ⟨z1, z2⟩ := hz
        simp only at z1 z2 hv
        subst z1 z2 hv
        cases odd with
        | none => exact ⟨none, hget, rfl, rfl, trivial⟩
        | some dd =>
          obtain ⟨fs, hx⟩ := hd dd rfl
          have hx' : ObjOk X.prog X.w H s.heap dd (.xd fs) := J.hok dd _ hx
          obtain ⟨mA, hns, _⟩ := hx'
          obtain ⟨od, ho, _⟩ := lookIn_ns hns
          exact ⟨some od, hget, rfl, rfl, ho⟩
      exact PySem.W.kia_one (kit_any T) J.kIn IA hk (fun z => nomatch z) fun tk => ⟨.bl b, H, J.kept (t' := tk) fun _ _ z => z, rfl, q⟩
end
section
variable {I : Info} {w : Wd} {X : Cx} {a C : Addr} {oe : Obj} {c : Nat} {d : Option Addr} {nm : Str} {xi : XInfo} {pn : List (Addr × Obj)}
theorem exK_of (T : CtxS I w X) (bi : X.mg "isinstance" = none) (hx : I.exs[c]? = some xi) (EF : ExF I X w.ct c xi C nm) (hz : Zc (.ref C) d oe) (hf : ∃ vs, oe.data = .fields vs) : ExK I (X.suite a ((a, oe) :: pn)) a c d nm := by
  constructor
  · intro xj cc y hj hy gy dy gi x p q r s te hx1
    rw [hx] at hj
    cases hj
    obtain ⟨yP, cV, cv, hyP, hcv, hk⟩ : ∃ (_ : True) (cV : V) (cv : Value), PE (X.suite a ((a, oe) :: pn)) (.Name y r) (tC cV) ∧ (∀ u, RelV cV u → u = cv) ∧ PySem.W.kitOne X.K (.ref C) cv = some (xi.up.contains cc) := by
      unfold nmOf at hy
      by_cases h9 : cc = 99
      · rw [if_pos h9] at hy
        cases hy
        exact ⟨trivial, .ty "ValueError", .type "ValueError", pe_bltn gy T.vn PyProof.Rows.Boot.«ValueError» rfl, fun u hu => hu, by rw [h9]; exact EF.ve⟩
      · rw [if_neg h9] at hy
        cases hyi : I.exs[cc]? with
        | none => rw [hyi] at hy; cases hy
        | some yi =>
          rw [hyi] at hy
          cases hy
          obtain ⟨D, nm', EG⟩ := T.exc cc yi hyi
          exact ⟨trivial, .ref D, .ref D, pe_glob gy EG.mg rfl dy, fun u hu => hu, (EF.em cc yi D nm' hyi EG.at_).2⟩
    refine PE.imp (pe_callB (call_isC EF.ec hz hf hcv hk) gi bi PyProof.Rows.boot_isinstance (pa_cons (PE.weak hx1) (pa_cons hyP pa_nil))) fun σ H Q h => ?_
    exact ⟨_, h, fun v H1 ⟨e1, e2, e3⟩ => ⟨by rw [e1], e2, e3⟩⟩
  · intro xj f hj hfl
    rw [hx] at hj
    cases hj
    obtain ⟨e1, e2⟩ := EF.fld f hfl
    refine ⟨e1, fun {x p q te} he => PE.imp (pe_xf ⟨EF.ec.hg, EF.ec.hk, EF.ec.hs, EF.ec.hd⟩ e2 hz hf (PE.weak he) (hb := base_name _ _ _ _)) fun σ H Q h => ?_⟩
    exact ⟨_, h, fun v H1 ⟨e1, dd, fs, u, e2, e3, e4, q⟩ => ⟨e1, rfl, dd, fs, u, e2, e3, e4, q⟩⟩
end
end CH

/-! CH 15: every statement does what it comes to. -/
namespace CH
open PySem PySem.Spec PyProof.Rows L2

section
variable {w : Wd} {B0 H0 B H B2 H2 : Hp} {σ σ2 : L2.St} {ρ ρ2 : List Sl}
theorem SInv.base (s : SInv w B0 H0 B H σ ρ) : SInv w B H0 B H σ ρ := ⟨⟨Same.refl _, s.ext.hh, s.ext.bh, fun _ _ h => h⟩, s.rel, s.fr⟩
theorem SInv.rebase (s : SInv w B0 H0 B H σ ρ) (t : SInv w B H0 B2 H2 σ2 ρ2) : SInv w B0 H0 B2 H2 σ2 ρ2 := ⟨⟨s.ext.bb.trans t.ext.bb, t.ext.hh, t.ext.bh, fun a h n => t.ext.nb a h (s.ext.nb a h n)⟩, t.rel, t.fr⟩
theorem EvS.base {D : Ends} {o : O} (s : SInv w B0 H0 B H σ ρ) (h : EvS w B0 H0 D o) : EvS w B H0 D o := by
  cases o with
  | nx ρ => exact fun B H σ t => h B H σ (s.rebase t)
  | rt d => exact fun B H v e hd => h B H v ⟨s.ext.bb.trans e.bb, e.hh, e.bh, fun a h n => e.nb a h (s.ext.nb a h n)⟩ hd
  | bk ρ => exact fun B H σ t => h B H σ (s.rebase t)
  | ct ρ => exact fun B H σ t => h B H σ (s.rebase t)
  | ex c f ρ => exact fun cls dx B H σ t => h cls dx B H σ (s.rebase t)
  | stuck => exact h
theorem set_two {i j k : Nat} {x y : Str} {p q r : Pos} {d : D} {ρ' : List Sl} (e : (Tg.two i x p j y q k r).set d ρ = some ρ') : ∃ d1 d2, d = .tuple [d1, d2] ∧ ρ' = setS (setS ρ i d1) j d2 := by
  cases d with
  | tuple ds =>
    match ds, e with
    | [d1, d2], e => cases e; exact ⟨d1, d2, rfl, rfl⟩
    | [], e => cases e
    | [_], e => cases e
    | _ :: _ :: _ :: _, e => cases e
  | _ => cases e
theorem set_three {i j l k : Nat} {x y z : Str} {p q r t : Pos} {d : D} {ρ' : List Sl} (e : (Tg.three i x p j y q l z t k r).set d ρ = some ρ') : ∃ d1 d2 d3, d = .tuple [d1, d2, d3] ∧ ρ' = setS (setS (setS ρ i d1) j d2) l d3 := by
  cases d with
  | tuple ds =>
    match ds, e with
    | [d1, d2, d3], e => cases e; exact ⟨d1, d2, d3, rfl, rfl⟩
    | [], e => cases e
    | [_], e => cases e
    | [_, _], e => cases e
    | _ :: _ :: _ :: _ :: _, e => cases e
  | _ => cases e
/-- a target is written -/
theorem SInv.tg {tg : Tg} {d : D} {ρ' : List Sl} {σ' : L2.St} (s : SInv w B0 H0 B H σ ρ) (e : tg.set d ρ = some ρ') (r : Rel w.K w.sx B H σ' ρ') (hw : wipe σ' tg.ixs = wipe σ tg.ixs) : SInv w B0 H0 B H σ' ρ' := by
  refine ⟨s.ext, r, fun i ds a h1 h2 => ?_⟩
  have key : i ∉ tg.ixs ∧ ρ[i]? = some (.own ds) := by
    cases tg with
    | one j x p =>
      cases e
      rcases get_set h1 with ⟨_, e⟩ | ⟨n, h1⟩
      · cases e
      · exact ⟨by simpa [Tg.ixs] using n, h1⟩
    | two j x p l y q kk t =>
      obtain ⟨d1, d2, rfl, rfl⟩ := set_two e
      rcases get_set h1 with ⟨_, e⟩ | ⟨n, h1⟩
      · cases e
      · rcases get_set h1 with ⟨_, e⟩ | ⟨n', h1⟩
        · cases e
        · exact ⟨by simp [Tg.ixs]; exact ⟨n', n⟩, h1⟩
    | three j x p l y q o z v kk t =>
      obtain ⟨d1, d2, d3, rfl, rfl⟩ := set_three e
      rcases get_set h1 with ⟨_, e⟩ | ⟨n, h1⟩
      · cases e
      · rcases get_set h1 with ⟨_, e⟩ | ⟨n', h1⟩
        · cases e
        · rcases get_set h1 with ⟨_, e⟩ | ⟨n'', h1⟩
          · cases e
          · exact ⟨by simp [Tg.ixs]; exact ⟨n'', n', n⟩, h1⟩
  have z : (wipe σ' tg.ixs)[i]? = σ'[i]? := wipe_out key.1
  have z2 : (wipe σ tg.ixs)[i]? = σ[i]? := wipe_out key.1
  rw [hw, z2] at z
  rw [← z] at h2
  exact s.fr i ds a key.2 h2
end
section
variable {I : Info} {sc : Scope} {N : List Str} {k : Nat} {F : FT} {w : Wd} {X : Cx}
/-- the reading of a for -/
theorem tIi {m : M (List D)} {σ : L2.St} {H : Hp} {Q Q' : L2.It → Hp → Prop} (h : tI w m σ H Q) (i : ∀ v H', Q v H' → Q' v H') : tI w m σ H Q' := by
  obtain ⟨B, ρ, r, e⟩ := h
  refine ⟨B, ρ, r, ?_⟩
  cases q : m ρ with
  | ok d => rw [q] at e; exact fun v B' H' x hd => i _ _ (e v B' H' x hd)
  | exc c f => rw [q] at e; exact e
  | stuck => rw [q] at e; exact e
theorem for_read {w : Wd} {tg : Tg} {mi : M (List D)} {tb : TS} {body : List Sl → O} (hb : ∀ E σ H, tS w body E σ H → tb E σ H) {E : Ends} {σ : L2.St} {H : Hp}
    (h : tS w (fun ρ => onR (mi ρ) ρ fun ds => forS (fun d ρ => tg.set d ρ) body ds ρ) E σ H) : tFor (tI w mi) (tG w tg) tb E σ H := by
  obtain ⟨B0, H0, B, ρ, s, q⟩ := h
  refine tIi (sRI s q) fun J H' ⟨ds, B', e1, s1, wk, q1⟩ => ?_
  have q1 := q1.base s1
  refine ⟨fun i m σ H => m = ds.length - i ∧ i ≤ ds.length ∧ ∃ Bi ρi, SInv w B' H0 Bi H σ ρi ∧ EvS w B' H0 E (forS (fun d ρ => tg.set d ρ) body (ds.drop i) ρi), ⟨ds.length, by simp, Nat.zero_le _, B', ρ, s1.base, by rw [List.drop_zero]; exact q1⟩, ?_⟩
  rintro i m σ2 H2 ⟨rfl, hi, Bi, ρi, si, qi⟩
  have wki := wk.at_ i Bi H2 si.ext.bb si.rel.sub
  by_cases hlt : i < ds.length
  · obtain ⟨d, hd⟩ : ∃ d, ds[i]? = some d := ⟨ds[i], List.getElem?_eq_getElem hlt⟩
    obtain ⟨go, yl⟩ := wki.2 d hd
    refine .inr ⟨go, fun σ' H' => ∃ Bi ρi, SInv w B' H0 Bi H' σ' ρi ∧ EvS w B' H0 E (forS (fun d ρ => tg.set d ρ) body (ds.drop (i + 1)) ρi), fun σ' H' hn => ⟨ds.length - (i + 1), by omega, rfl, hlt, hn⟩, fun x H3 hy => ?_⟩
    obtain ⟨B3, x3, hd3⟩ := yl x H3 hy
    have s3 := si.grow x3
    have edrop : ds.drop i = d :: ds.drop (i + 1) := by
      have e1 := List.drop_eq_getElem_cons hlt
      rw [List.getElem?_eq_getElem hlt] at hd
      cases hd
      exact e1
    rw [edrop, forS] at qi
    cases eb : tg.set d ρi with
    | none => rw [eb] at qi; exact qi.elim
    | some ρ' =>
      rw [eb] at qi
      dsimp only at qi
      refine ⟨B3, ρi, d, ρ', s3.rel, hd3, eb, fun σ' r' hw => hb _ _ _ ⟨B', H0, B3, ρ', s3.tg eb r' (hw _ fun _ h => h), ?_⟩⟩
      cases eo : body ρ' with
      | nx ρ2 => rw [eo] at qi; exact fun B H σ t => ⟨B, ρ2, t, qi⟩
      | ct ρ2 => rw [eo] at qi; exact fun B H σ t => ⟨B, ρ2, t, qi⟩
      | bk ρ2 => rw [eo] at qi; exact qi
      | rt d => rw [eo] at qi; exact qi
      | ex c f ρ2 => rw [eo] at qi; exact qi
      | stuck => rw [eo] at qi; exact qi
  · have e : i = ds.length := by omega
    subst e
    rw [List.drop_length, forS] at qi
    exact .inl ⟨wki.1 (Nat.le_refl _), qi Bi H2 σ2 si⟩
/-- the reading of a while -/
theorem while_read {w : Wd} {tc : TT} {mt : M Bool} {tb : TS} {body : List Sl → O} (hc : ∀ σ H Q, tT w mt σ H Q → tc σ H Q) (hb : ∀ E σ H, tS w body E σ H → tb E σ H) {E : Ends} {σ : L2.St} {H : Hp} {n : Nat}
    (h : tS w (fun ρ => whileS mt body n ρ) E σ H) : tWhile tc tb E σ H := by
  obtain ⟨B0, H0, B, ρ, s, q⟩ := h
  refine ⟨fun m σ H => ∃ B ρ, SInv w B0 H0 B H σ ρ ∧ EvS w B0 H0 E (whileS mt body m ρ), ⟨n, B, ρ, s, q⟩, ?_⟩
  rintro m σ2 H2 ⟨B2, ρ2, s2, q2⟩
  cases m with
  | zero => exact q2.elim
  | succ m =>
    rw [whileS] at q2
    refine hc _ _ _ (tTi (sRT s2 q2) fun b H3 ⟨B3, e3, x3, s3, q3⟩ => ?_)
    cases b with
    | false =>
      rw [if_neg Bool.false_ne_true] at q3 ⊢
      exact q3 B3 H3 σ2 s3
    | true =>
      rw [if_pos rfl] at q3 ⊢
      refine ⟨fun σ' H' => ∃ B ρ, SInv w B0 H0 B H' σ' ρ ∧ EvS w B0 H0 E (whileS mt body m ρ), fun σ' H' hn => ⟨m, Nat.lt_succ_self _, hn⟩, hb _ _ _ ⟨B0, H0, B3, ρ2, s3, ?_⟩⟩
      cases eo : body ρ2 with
      | nx ρ2 => rw [eo] at q3; exact fun B H σ t => ⟨B, ρ2, t, q3⟩
      | ct ρ2 => rw [eo] at q3; exact fun B H σ t => ⟨B, ρ2, t, q3⟩
      | bk ρ2 => rw [eo] at q3; exact q3
      | rt d => rw [eo] at q3; exact q3
      | ex c f ρ2 => rw [eo] at q3; exact q3
      | stuck => rw [eo] at q3; exact q3

theorem tyV_own {K : PySem.W.Frag} {H : Hp} {a : Addr} {xs : List V} (h : H a = some (.lst xs)) : tyV K "list" (.ref a) H := Or.inl ⟨rfl, _, Or.inl (Or.inl h)⟩
end
end CH

/-! CH 16: every body does what it comes to. -/
namespace CH
open PySem PySem.Spec PyProof.Rows L2

section
variable {I : Info} {sc : Scope} {N : List Str} {k : Nat} {F : FT} {w : Wd} {X : Cx}
theorem s_app (C : CtxOk I sc N k F w X) {i : Nat} {x : Str} {e : E} {px pa pc p : Pos} (h : (S.app i x e px pa pc p).wf I N sc = true) (hc : X.calm = true) : PS X (S.app i x e px pa pc p).py (tS w (exs I F (.app i x e px pa pc p))) := by
  simp only [S.wf, Bool.and_eq_true, decide_eq_true_eq] at h
  obtain ⟨⟨⟨⟨h1, h2⟩, h3⟩, h4⟩, h5⟩ := h
  have he := (snd e C (by rw [hc]; exact h4)).v
  refine PS.imp (ps_expr (pe_bm PySem.F.plainAttrs_list PySem.F.slot_list_append PySem.F.type_list_append mt_append (pe_var (C.at h1) (C.vis h2) (okNm1 h3) (okNm2 h3)) (pa_cons he pa_nil (star_py e [] X.env)) (hbase := base_name _ _ _ _) (hfew := by rw [star_py]; rfl) (hline := h5) (hs := star_py e [] X.env))) fun E σ H ⟨B0, H0, B, ρ, s, q⟩ => ?_
  unfold exs at q
  split at q
  · rename_i ds ho
    obtain ⟨a, xs, hσ, hH, hB, hx⟩ := s.rel.own i ds ho
    refine ⟨.ref a, hσ, tyV_own hH, ?_⟩
    refine tEi (sR s q) fun v H' ⟨d, B', e1, x1, s1, hd, q1⟩ => ?_
    split at q1
    · rename_i hlt
      obtain ⟨a', xs', hσ', hH', hB', hx'⟩ := s1.rel.own i ds ho
      rw [hσ] at hσ'
      cases hσ'
      have ll := lim_line
      have hln := hx'.length
      exact ⟨a, xs', v, rfl, rfl, hH', by omega, q1 _ _ _ (s1.mut ho hσ hH' hB' (hx'.append (.cons hd .nil)))⟩
    · exact q1.elim
  · exact q.elim
theorem s_ins (C : CtxOk I sc N k F w X) {i : Nat} {x : Str} {a b : E} {px pa pc p : Pos} (h : (S.ins i x a b px pa pc p).wf I N sc = true) (hc : X.calm = true) : PS X (S.ins i x a b px pa pc p).py (tS w (exs I F (.ins i x a b px pa pc p))) := by
  simp only [S.wf, Bool.and_eq_true, decide_eq_true_eq] at h
  obtain ⟨⟨⟨⟨⟨h1, h2⟩, h3⟩, h4⟩, h4'⟩, h5⟩ := h
  have hS := snds (.cons a (.cons b .nil)) C (by show (a.wf I N sc X.calm && (b.wf I N sc X.calm && true)) = true; rw [hc, h4, h4']; rfl)
  refine PS.imp (ps_expr (pe_bm PySem.F.plainAttrs_list PySem.F.slot_list_insert PySem.F.type_list_insert mt_insert (pe_var (C.at h1) (C.vis h2) (okNm1 h3) (okNm2 h3)) hS.l (hbase := base_name _ _ _ _) (hfew := by rw [star_py, star_py]; rfl) (hline := h5) (hs := star_py a [b.py] X.env) (hplain := star_any (.cons b .nil) X.env _))) fun E σ H ⟨B0, H0, B, ρ, s, q⟩ => ?_
  unfold exs at q
  split at q
  · rename_i ds ho
    obtain ⟨l, xs, hσ, hH, hB, hx⟩ := s.rel.own i ds ho
    refine ⟨.ref l, hσ, tyV_own hH, ?_⟩
    refine tAi (sRA s q) fun vs H' ⟨es, B', e1, x1, s1, hd, q1⟩ => ?_
    split at q1
    · rename_i n d
      split at q1
      · rename_i hlt
        cases hd with
        | cons d1 d2 =>
          cases d2 with
          | cons d2 d3 =>
            cases d3
            cases d1
            obtain ⟨l', xs', hσ', hH', hB', hx'⟩ := s1.rel.own i ds ho
            rw [hσ] at hσ'
            cases hσ'
            have ll := lim_line
            have hln := hx'.length
            exact ⟨l, xs', n, _, rfl, rfl, hH', by omega, hlt.2.1, by omega, q1 _ _ _ (s1.mut ho hσ hH' hB' (((hx'.take n.toNat).append (.cons d2 .nil)).append (hx'.drop n.toNat)))⟩
      · exact q1.elim
    · exact q1.elim
  · exact q.elim
theorem s_ext (C : CtxOk I sc N k F w X) {i : Nat} {x : Str} {e : E} {px pa pc p : Pos} (h : (S.ext i x e px pa pc p).wf I N sc = true) (hc : X.calm = true) : PS X (S.ext i x e px pa pc p).py (tS w (exs I F (.ext i x e px pa pc p))) := by
  simp only [S.wf, Bool.and_eq_true, decide_eq_true_eq] at h
  obtain ⟨⟨⟨⟨h1, h2⟩, h3⟩, h4⟩, h5⟩ := h
  have he := (snd e C (by rw [hc]; exact h4)).v
  refine PS.imp (ps_expr (pe_bm PySem.F.plainAttrs_list PySem.F.slot_list_extend PySem.F.type_list_extend mt_extW (pe_var (C.at h1) (C.vis h2) (okNm1 h3) (okNm2 h3)) (pa_cons he pa_nil (star_py e [] X.env)) (hbase := base_name _ _ _ _) (hfew := by rw [star_py]; rfl) (hline := h5) (hs := star_py e [] X.env))) fun E σ H ⟨B0, H0, B, ρ, s, q⟩ => ?_
  unfold exs at q
  split at q
  · rename_i ds ho
    obtain ⟨a, xs, hσ, hH, hB, hx⟩ := s.rel.own i ds ho
    refine ⟨.ref a, hσ, tyV_own hH, ?_⟩
    refine tEi (sR s q) fun v H' ⟨d, B', e1, x1, s1, hd, q1⟩ => ?_
    split at q1
    · rename_i es
      split at q1
      · rename_i hlt
        obtain ⟨a', xs', hσ', hH', hB', hx'⟩ := s1.rel.own i ds ho
        rw [hσ] at hσ'
        cases hσ'
        have ll := lim_line
        have hln := hx'.length
        cases hd with
        | lst hq hr =>
          have hln2 := hr.length
          exact ⟨a, _, xs', _, rfl, rfl, hH', C.hK ▸ s1.rel.sub.seq hq, by omega, q1 _ _ _ (s1.mut ho hσ hH' hB' (hx'.append hr))⟩
      · exact q1.elim
    · exact q1.elim
  · exact q.elim
theorem s_setC (C : CtxOk I sc N k F w X) (T : CtxS I w X) {i : Nat} {x : Str} {elt : E} {tg : Tg} {it : It} {ifs : Es} {sc' : Scope} {own : List (Str × Nat)} {pc px p : Pos} (h : (S.set i x (.comp elt tg it ifs sc' own pc) px p).wf I N sc = true) (hco : compOk sc x px (.comp elt tg it ifs sc' own pc) = true) :
    PS X (S.set i x (.comp elt tg it ifs sc' own pc) px p).py (tS w (exs I F (.set i x (.comp elt tg it ifs sc' own pc) px p))) := by
  simp only [S.wf, Bool.and_eq_true, decide_eq_true_eq, E.wf] at h
  simp only [Bool.and_eq_true, compOk] at hco
  obtain ⟨⟨h1, h2⟩, ⟨⟨⟨⟨⟨⟨⟨⟨_, hit⟩, htw⟩, hb⟩, htg⟩, hix⟩, hifs⟩, hle⟩, hel⟩⟩ := h
  obtain ⟨⟨hl, hln⟩, hun⟩ := hco
  have hc := T.calm
  have hi := sndi it tg C hc (by rw [hc]; exact hit) htw
  have hix' : ∀ i ∈ tg.ixs, i ∈ own.map (·.2) := fun i hi => by simpa using List.all_eq_true.mp hix i hi
  have hlx := C.isL hl
  refine PS.imp (ps_setLc (te := tE w.cold (ev I F elt).v) (tt := tT w.cold (evs I F ifs).allT) hc C.ndX (C.at h1) hlx (sw_true T.kind hlx hln (by simpa using hun)) hi (C.blkOk hb) (fun s H A cl fp => p_tg (C.blk hc sc' s H A cl fp) hc htg)
    (fun s H A cl fp => (snds ifs (C.blk hc sc' s H A cl fp) (by show ifs.wf I N sc' X.calm = true; rw [hc]; exact hifs)).all hle) (fun s H A cl fp => (snd elt (C.blk hc sc' s H A cl fp) (by show elt.wf I N sc' X.calm = true; rw [hc]; exact hel)).v) (fun x => fold_it it X.env x)) fun E σ H ⟨B0, H0, B, ρ, s, q⟩ => ?_
  refine comp_read hix' ?_
  refine tEi (sR (m := (ev I F (.comp elt tg it ifs sc' own pc)).v) s q) fun v H' ⟨d, B', e1, x1, s1, hd, q1⟩ => ?_
  exact q1 _ _ _ (s1.setD i hd)
theorem s_set (C : CtxOk I sc N k F w X) (T : CtxS I w X) {i : Nat} {x : Str} {e : E} {px p : Pos} (h : (S.set i x e px p).wf I N sc = true) : PS X (S.set i x e px p).py (tS w (exs I F (.set i x e px p))) := by
  have key : (∀ n, swapsWith e.py (some (.Name x px)) n X.env = pure false) → PS X (S.set i x e px p).py (tS w (exs I F (.set i x e px p))) := fun hn => by
    simp only [S.wf, Bool.and_eq_true, decide_eq_true_eq] at h
    obtain ⟨⟨h1, h2⟩, h3⟩ := h
    refine PS.imp (ps_set C.ndX (C.at h1) (C.loc h2) (snd e C (by rw [T.calm]; exact h3)).v (hs := hn _) (hf := C.lfn h2)) fun E σ H ⟨B0, H0, B, ρ, s, q⟩ => ?_
    exact tEi (sR s q) fun v H' ⟨d, B', e1, x1, s1, hd, q1⟩ => q1 _ _ _ (s1.setD i hd)
  cases e with
  | comp elt tg it ifs sc' own pc =>
    by_cases hco : compOk sc x px (.comp elt tg it ifs sc' own pc) = true
    · exact s_setC C T h hco
    · refine key fun n => ?_
      have hx : locB sc x = true := by
        simp only [S.wf, Bool.and_eq_true, decide_eq_true_eq] at h
        exact h.1.2
      show (pure (X.env.blockKind == .function && X.env.kindOf x == some .local && px.line == pc.line && !(sc'.names.any fun (n, k) => n == x && (k == .local || k == .cell))) : Sem Bool) = pure false
      have hf : (X.env.blockKind == .function && X.env.kindOf x == some .local && px.line == pc.line && !(sc'.names.any fun (n, k) => n == x && (k == .local || k == .cell))) = false := by
        by_cases hl : isLoc sc x = true
        · have z : ((px.line == pc.line) && !(sc'.names.any fun (n, k) => n == x && (k == .local || k == .cell))) = false := by
            cases q : ((px.line == pc.line) && !(sc'.names.any fun (n, k) => n == x && (k == .local || k == .cell))) with
            | false => rfl
            | true =>
              refine absurd ?_ hco
              show (isLoc sc x && (px.line == pc.line) && !(sc'.names.any fun (n, k) => n == x && (k == .local || k == .cell))) = true
              rw [hl, Bool.true_and]
              exact q
          rw [Bool.and_assoc, z, Bool.and_false]
        · have hk : X.env.kindOf x = some .cell := by
            unfold locB at hx
            unfold isLoc at hl
            cases q : sc.names.lookup x with
            | none => rw [q] at hx; cases hx
            | some kd =>
              rw [q] at hx hl
              cases kd with
              | «local» => exact absurd rfl hl
              | cell => exact C.sc1 x .cell q (by decide)
              | _ => cases hx
          rw [hk]
          have e0 : (some NameKind.cell == some NameKind.local) = false := rfl
          rw [e0, Bool.and_false]
          rfl
      rw [hf]
  | _ => exact key fun n => swap_py rfl _ _ _
theorem s_setF (C : CtxOk I sc N k F w X) (T : CtxS I w X) {i : Nat} {x : Str} {e : Fe} {px p : Pos} (h : (S.setF i x e px p).wf I N sc = true) : PS X (S.setF i x e px p).py (tS w (exs I F (.setF i x e px p))) := by
  simp only [S.wf, Bool.and_eq_true, decide_eq_true_eq] at h
  obtain ⟨⟨h1, h2⟩, h3⟩ := h
  cases e with
  | lst es p1 =>
    simp only [Fe.wf, Bool.and_eq_true, decide_eq_true_eq] at h3
    refine PS.imp (ps_set C.ndX (C.at h1) (C.loc h2) (pe_lst (snds es C (by rw [T.calm]; exact h3.1)).l) (hs := by rfl) (hf := C.lfn h2)) fun E σ H ⟨B0, H0, B, ρ, s, q⟩ => ?_
    refine tAi (sRA s q) fun vs H' ⟨ds, B', e1, x1, s1, hd, q1⟩ => ?_
    have hl := hd.length
    have h1 := evs_len I F es ρ ds e1
    exact ⟨by have := sizeLine_eq; omega, fun p np => q1 _ _ _ (s1.new i np hd)⟩
  | ife t a b pa pb p1 =>
    simp only [Fe.wf, Bool.and_eq_true, decide_eq_true_eq] at h3
    obtain ⟨⟨⟨⟨ht, ha⟩, hal⟩, hb⟩, hbl⟩ := h3
    refine PS.imp (ps_set C.ndX (C.at h1) (C.loc h2) (pe_ifExp (snd t C (by rw [T.calm]; exact ht)).t (pe_lst (snds a C (by rw [T.calm]; exact ha)).l) (pe_lst (snds b C (by rw [T.calm]; exact hb)).l)) (hs := by rfl) (hf := C.lfn h2)) fun E σ H ⟨B0, H0, B, ρ, s, q⟩ => ?_
    have q : EvS w B0 H0 E (onR (((ev I F t).t ρ).bind fun k => if k = true then (evs I F a).l ρ else (evs I F b).l ρ) ρ fun ds => .nx (ρ.set i (.own ds))) := q
    have q : EvS w B0 H0 E (onR ((ev I F t).t ρ) ρ fun k => onR (if k = true then (evs I F a).l ρ else (evs I F b).l ρ) ρ fun ds => .nx (ρ.set i (.own ds))) := by
      cases ee : (ev I F t).t ρ <;> rw [ee] at q <;> exact q
    refine tTi (sRT s q) fun k H' ⟨B', e1, x1, s1, q1⟩ => ?_
    cases k with
    | true =>
      rw [if_pos rfl] at q1 ⊢
      refine tAi (sRA s1 q1) fun vs H' ⟨ds, B', e1, x1, s1, hd, q1⟩ => ?_
      have hl := hd.length
      have h1 := evs_len I F a ρ ds e1
      exact ⟨by have := sizeLine_eq; omega, fun p np => q1 _ _ _ (s1.new i np hd)⟩
    | false =>
      rw [if_neg Bool.false_ne_true] at q1 ⊢
      refine tAi (sRA s1 q1) fun vs H' ⟨ds, B', e1, x1, s1, hd, q1⟩ => ?_
      have hl := hd.length
      have h1 := evs_len I F b ρ ds e1
      exact ⟨by have := sizeLine_eq; omega, fun p np => q1 _ _ _ (s1.new i np hd)⟩
end
end CH

/-! CH 17: every body does what it comes to (2). -/
namespace CH
open PySem PySem.Spec PyProof.Rows L2

theorem not_b {b : Bool} (h : (!b) = true) : b = false := by cases b <;> first | rfl | cases h
section
variable {I : Info} {sc : Scope} {N : List Str} {k : Nat} {F : FT} {w : Wd} {X : Cx}
theorem s_par (C : CtxOk I sc N k F w X) (T : CtxS I w X) {i j kt kv : Nat} {x y : Str} {px py pt pv p : Pos} {a b : E} (h : (S.par i x px j y py kt pt a b kv pv p).wf I N sc = true) : PS X (S.par i x px j y py kt pt a b kv pv p).py (tS w (exs I F (.par i x px j y py kt pt a b kv pv p))) := by
  simp only [S.wf, Bool.and_eq_true, decide_eq_true_eq] at h
  obtain ⟨⟨⟨⟨⟨⟨⟨⟨⟨⟨h1, h2⟩, h3⟩, h4⟩, h5⟩, h6⟩, ha⟩, hb⟩, hl⟩, hf⟩, hk⟩ := h
  have hS := snds (.cons a (.cons b .nil)) C (by show (a.wf I N sc X.calm && (b.wf I N sc X.calm && true)) = true; rw [T.calm, ha, hb]; rfl)
  refine PS.imp (ps_par T.calm C.ndX (C.at h1) (C.at h3) h5 (C.isL h2) (C.isL h4) hS.l (sw_par T.kind (C.isL h2) (C.isL h4) h6 hl (not_b hf) (not_b hk)) (by rfl)) fun E σ H ⟨B0, H0, B, ρ, s, q⟩ => ?_
  refine tAi (sRA s q) fun vs H' ⟨ds, B', e1, x1, s1, hd, q1⟩ => ?_
  match ds, hd, q1 with
  | [d, e], hd, q1 =>
    cases hd with
    | cons r1 r2 =>
      cases r2 with
      | cons r2 r3 =>
        cases r3
        exact ⟨_, _, rfl, q1 _ _ _ ((s1.setD i r1).setD j r2)⟩
  | [], _, q1 => exact q1.elim
  | [_], _, q1 => exact q1.elim
  | _ :: _ :: _ :: _, _, q1 => exact q1.elim
theorem s_par3 (C : CtxOk I sc N k F w X) (T : CtxS I w X) {i j l kt kv : Nat} {x y z : Str} {px py pz pt pv p : Pos} {a b c : E} (h : (S.par3 i x px j y py l z pz kt pt a b c kv pv p).wf I N sc = true) :
    PS X (S.par3 i x px j y py l z pz kt pt a b c kv pv p).py (tS w (exs I F (.par3 i x px j y py l z pz kt pt a b c kv pv p))) := by
  simp only [S.wf, Bool.and_eq_true, decide_eq_true_eq] at h
  obtain ⟨⟨⟨⟨⟨⟨⟨⟨⟨⟨⟨⟨⟨⟨⟨⟨⟨⟨h1, h2⟩, h3⟩, h4⟩, h5⟩, h6⟩, n1⟩, n2⟩, n3⟩, m1⟩, m2⟩, m3⟩, ha⟩, hb⟩, hc⟩, hl⟩, hl2⟩, hf⟩, hk⟩ := h
  have hS := snds (.cons a (.cons b (.cons c .nil))) C (by show (a.wf I N sc X.calm && (b.wf I N sc X.calm && (c.wf I N sc X.calm && true))) = true; rw [T.calm, ha, hb, hc]; rfl)
  refine PS.imp (ps_par3 T.calm C.ndX (C.at h1) (C.at h3) (C.at h5) n1 n2 n3 (C.isL h2) (C.isL h4) (C.isL h6) hS.l (sw_par3 T.kind (C.isL h2) (C.isL h4) (C.isL h6) m1 m2 m3 hl hl2 (not_b hf) (not_b hk)) (by rfl)) fun E σ H ⟨B0, H0, B, ρ, s, q⟩ => ?_
  refine tAi (sRA s q) fun vs H' ⟨ds, B', e1, x1, s1, hd, q1⟩ => ?_
  match ds, hd, q1 with
  | [d, e, f], hd, q1 =>
    cases hd with
    | cons r1 r2 =>
      cases r2 with
      | cons r2 r3 =>
        cases r3 with
        | cons r3 r4 =>
          cases r4
          exact ⟨_, _, _, rfl, q1 _ _ _ (((s1.setD i r1).setD j r2).setD l r3)⟩
  | [], _, q1 => exact q1.elim
  | [_], _, q1 => exact q1.elim
  | [_, _], _, q1 => exact q1.elim
  | _ :: _ :: _ :: _ :: _, _, q1 => exact q1.elim
theorem s_unp (C : CtxOk I sc N k F w X) (T : CtxS I w X) {tg : Tg} {e : E} {p : Pos} (h : (S.unp tg e p).wf I N sc = true) : PS X (S.unp tg e p).py (tS w (exs I F (.unp tg e p))) := by
  simp only [S.wf, Bool.and_eq_true] at h
  obtain ⟨⟨⟨⟨h1, h2⟩, h3⟩, h4⟩, h5⟩ := h
  have ht := p_tg C T.calm h1
  cases tg with
  | one i x p => cases h2
  | two i x p1 j y p2 kk r =>
    refine PS.imp (ps_asg (snd e C (by rw [T.calm]; exact h3)).v ht (hs := by have z := swap_py (not_b h5) (some (Tg.two i x p1 j y p2 kk r).py) p.line X.env; unfold swapsWithSole; exact z) (hw := by cases e <;> first | rfl | cases h4) (h1 := by rfl)) fun E σ H ⟨B0, H0, B, ρ, s, q⟩ => ?_
    refine tEi (sR s q) fun v H' ⟨d, B', e1, x1, s1, hd, q1⟩ => ?_
    split at q1
    · rename_i ρ' eb
      exact ⟨B', ρ, d, ρ', s1.rel, hd, eb, fun σ' r' hw => q1 _ _ _ (s1.tg eb r' (hw _ fun _ h => h))⟩
    · exact q1.elim
  | three i x p1 j y p2 l z p3 kk r =>
    refine PS.imp (ps_asg (snd e C (by rw [T.calm]; exact h3)).v ht (hs := by have z' := swap_py (not_b h5) (some (Tg.three i x p1 j y p2 l z p3 kk r).py) p.line X.env; unfold swapsWithSole; exact z') (hw := by cases e <;> first | rfl | cases h4) (h1 := by rfl)) fun E σ H ⟨B0, H0, B, ρ, s, q⟩ => ?_
    refine tEi (sR s q) fun v H' ⟨d, B', e1, x1, s1, hd, q1⟩ => ?_
    split at q1
    · rename_i ρ' eb
      exact ⟨B', ρ, d, ρ', s1.rel, hd, eb, fun σ' r' hw => q1 _ _ _ (s1.tg eb r' (hw _ fun _ h => h))⟩
    · exact q1.elim
theorem s_aug (C : CtxOk I sc N k F w X) (T : CtxS I w X) {i : Nat} {x : Str} {e : E} {px p : Pos} (h : (S.aug i x e px p).wf I N sc = true) : PS X (S.aug i x e px p).py (tS w (exs I F (.aug i x e px p))) := by
  simp only [S.wf, Bool.and_eq_true, decide_eq_true_eq] at h
  obtain ⟨⟨⟨h1, h2⟩, h3⟩, h4⟩ := h
  refine PS.imp (ps_aug C.ndX (C.at h1) (C.loc h2) (snd e C (by rw [T.calm]; exact h4)).v ip_add (hf := C.lfn h2)) fun E σ H ⟨B0, H0, B, ρ, s, q⟩ => ?_
  unfold exs at q
  split at q
  · rename_i n ho
    obtain ⟨v, hσ, hv⟩ := s.rel.dat i _ ho
    cases hv
    refine ⟨_, hσ, tEi (sR s q) fun u H' ⟨d, B', e1, x1, s1, hd, q1⟩ => ?_⟩
    split at q1
    · rename_i m
      cases hd
      exact ⟨_, _, rfl, rfl, q1 _ _ _ (s1.setD i (.int _))⟩
    · exact q1.elim
  · exact q.elim
theorem s_rais (C : CtxOk I sc N k F w X) (T : CtxS I w X) {c kk : Nat} {y m : Str} {py pm pc p : Pos} (h : (S.rais c y m kk py pm pc p).wf I N sc = true) : PS X (S.rais c y m kk py pm pc p).py (tS w (exs I F (.rais c y m kk py pm pc p))) := by
  simp only [S.wf, Bool.and_eq_true] at h
  obtain ⟨⟨h1, h2⟩, h3⟩ := h
  cases e : I.exs[c]? with
  | none => rw [e] at h3; cases h3
  | some xi =>
    rw [e] at h3
    simp only [Bool.and_eq_true, decide_eq_true_eq] at h3
    obtain ⟨h3, h4⟩ := h3
    subst h3
    obtain ⟨Cl, nm, EF⟩ := T.exc c xi e
    obtain ⟨Bs, ni, ii, bm, f1, f2⟩ := EF.plain (by cases q : xi.field with | none => rfl | some _ => rw [q] at h4; cases h4)
    refine PS.imp (ps_raise T.calm C.tk (pmk_own f1 f2 EF.mg EF.kp EF.ra (C.gx h1) (okNm1 h2))) fun E σ H ⟨B0, H0, B, ρ, s, q⟩ => ?_
    exact q _ _ B H σ s ⟨_, _, EF.at_, rfl, fun _ => rfl, fun d hd => by cases hd⟩

theorem s_raisF (C : CtxOk I sc N k F w X) (T : CtxS I w X) {c : Nat} {y : Str} {e : E} {py pc p : Pos} (h : (S.raisF c y e py pc p).wf I N sc = true) : PS X (S.raisF c y e py pc p).py (tS w (exs I F (.raisF c y e py pc p))) := by
  simp only [S.wf, Bool.and_eq_true] at h
  obtain ⟨⟨⟨h1, h2⟩, he⟩, h3⟩ := h
  cases e0 : I.exs[c]? with
  | none => rw [e0] at h3; cases h3
  | some xi =>
    rw [e0] at h3
    simp only [Bool.and_eq_true, decide_eq_true_eq] at h3
    obtain ⟨h3, h4⟩ := h3
    subst h3
    obtain ⟨Cl, nm, EF⟩ := T.exc c xi e0
    cases hf : xi.field with
    | none => rw [hf] at h4; cases h4
    | some f =>
      obtain ⟨OX, fI, fd, iC, tI, FO, hb⟩ := EF.ini f hf
      obtain ⟨rfl, _⟩ := EF.fld f hf
      refine PS.imp (ps_raise T.calm C.tk (pmk_oex OX iC tI FO ((C.rm T.calm).mono (by omega)) hb .nil (fun pins σ H s e s' I h => passAt takes0 σ pins H s e s' I h) (C.gx h1) EF.mg (pa_cons (snd e C (by rw [T.calm]; exact he)).v pa_nil (star_py e [] X.env)) (okNm1 h2) (star_py e [] X.env) (by rfl))) fun E σ H ⟨B0, H0, B, ρ, s, q⟩ => ?_
      unfold exs at q
      refine tEi (sR s q) fun v H' ⟨d, B', e1, x1, s1, hd, q1⟩ => ?_
      refine ⟨by simp, fun a na => ⟨a, v, rfl, upd_same, fun dx hdx ne => ⟨rfl, dx, [(f, v)], upd_same, by rw [upd_ne ne, upd_same], by rwa [upd_ne ne] at hdx, ?_⟩⟩⟩
      have hdx' : H' dx = none := by rwa [upd_ne ne] at hdx
      have eH : upd (del (upd (upd (upd H' a (exo a Cl none)) dx (exd dx [(f, v)])) a (exo a Cl (some dx))) a) dx (.xd [(f, v)]) = upd H' dx (.xd [(f, v)]) := by
        funext b
        by_cases hb : b = dx
        · rw [hb, upd_same, upd_same]
        · rw [upd_ne hb, upd_ne hb]
          by_cases hba : b = a
          · rw [hba, del_same, na]
          · rw [del_ne hba, upd_ne hba, upd_ne hb, upd_ne hba]
      rw [eH]
      have en := Ext.new (o := HO.xd [(f, v)]) x1.bh hdx'
      exact q1 _ _ _ _ _ (s1.grow en) ⟨Cl, f, EF.at_, rfl, fun z => (by cases z), fun d' e2 => by cases e2; exact ⟨dx, v, rfl, upd_same, hd.same en.bb⟩⟩

/-! ### try -/
theorem CtxOk.suite (C : CtxOk I sc N k F w X) {a : Addr} {c : Nat} {d : Option Addr} {nm : Str} {p : Addr × Obj} {pn : List (Addr × Obj)} (EK : ExK I (X.suite a (p :: pn)) a c d nm) :
    CtxOk I sc N k F ⟨w.K, w.ct, some (a, c, d, nm), fun _ _ _ _ => False⟩ (X.suite a (p :: pn)) :=
  ⟨C.hK, C.hN, C.nd, C.sc1, C.sc2, C.fnc, C.un, fun z => Bool.noConfusion z, takes0, C.gl, C.bl, fun z => Bool.noConfusion z, fun a' c' d' nm' e => by cases e; exact ⟨rfl, EK⟩⟩
theorem CtxOk.tr (C : CtxOk I sc N k F w X) {W : WX} {pn : List (Addr × Obj)} {xe : Value → Shared → Prop} (tk : Takes (X.tr pn xe) W) (T : CtxS I w X) : CtxOk I sc N k F { w with W := W } (X.tr pn xe) :=
  ⟨C.hK, C.hN, C.nd, C.sc1, C.sc2, C.fnc, C.un, C.rm, tk, C.gl, C.bl, fun hc f fi e => ⟨(C.fs hc f fi e).at_⟩, fun a c d nm e => by rw [show ({ w with W := W } : Wd).sx = w.sx from rfl, T.sx] at e; cases e⟩
theorem CtxS.tr (T : CtxS I w X) {W : WX} {pn : List (Addr × Obj)} {xe : Value → Shared → Prop} (ps : PassesOwn (model X.prog X.w) X.A X.env xe) : CtxS I { w with W := W } (X.tr pn xe) :=
  ⟨T.calm, ps, T.kind, T.stk, T.frm, T.sx, T.vn, fun c xi e => by
    obtain ⟨C, nm, EF⟩ := T.exc c xi e
    exact ⟨C, nm, EF.at_, EF.mg, EF.kp, EF.ra, EF.plain, EF.ec, EF.fld, EF.em, EF.ve, EF.ini⟩⟩
theorem sndSu : ∀ (su : Su) {w : Wd} {X : Cx} (C : CtxOk I sc N k F w X) (hc : X.calm = false), su.wf I N sc = true → PSs X su.py (tS w (xsu I F su))
  | .nil, w, X, C, hc, h => PSs.imp pss_nil fun E σ H ⟨B0, H0, B, ρ, s, q⟩ => q _ _ _ s
  | .ret e p, w, X, C, hc, h => PSs.imp (pss_one (ps_ret (snd e C (by rw [hc]; exact h)).v)) fun E σ H ⟨B0, H0, B, ρ, s, q⟩ =>
    tEi (sR s q) fun v H' ⟨d, B', e1, x1, s1, hd, q1⟩ => q1 B' H' v s1.ext hd
  | .set i x e px p r, w, X, C, hc, h => by
    simp only [Su.wf, Bool.and_eq_true, decide_eq_true_eq] at h
    obtain ⟨⟨⟨⟨h1, h2⟩, h3⟩, h4⟩, h5⟩ := h
    refine PSs.imp (pss_cons (ps_set C.ndX (C.at h1) (C.loc h2) (snd e C (by rw [hc]; exact h3)).v (hs := swap_py (not_b h4) _ _ _) (hf := C.lfn h2)) (sndSu r C hc h5)) fun E σ H ⟨B0, H0, B, ρ, s, q⟩ => ?_
    exact tEi (sR s q) fun v H' ⟨d, B', e1, x1, s1, hd, q1⟩ => ⟨B0, H0, B', _, s1.setD i hd, q1⟩

theorem SInv.into {B0 H0 B H : Hp} {σ : L2.St} {ρ : List Sl} (s : SInv w B0 H0 B H σ ρ) (hx : w.sx = none) (a : Addr) {c : Nat} {f : Option D} {d : Option Addr} {nm : Str} {C : Addr} (hct : w.ct c = some (C, nm)) (he : ExcAt w.K w.ct B c f (.ref C) d) (n : Option Nat) :
    SInv ⟨w.K, w.ct, some (a, c, d, nm), fun _ _ _ _ => False⟩ B0 H0 B H (onE σ a n) (inS ρ n c f) := by
  obtain ⟨C', nm', e1, e2, e3, e4⟩ := he
  rw [hct] at e1
  cases e1
  have r0 := s.rel
  rw [hx] at r0
  have none_ : ∀ (i c' : Nat) (f' : Option D), ρ[i]? ≠ some (.exc c' f') := fun i c' f' z => by
    obtain ⟨_, _, _, z, _⟩ := r0.exc i c' f' z
    cases z
  cases n with
  | none => exact ⟨s.ext, ⟨r0.len, r0.sub, r0.dat, r0.own, r0.sep, fun i c' f' z => absurd z (none_ i c' f')⟩, s.fr⟩
  | some i =>
    have r1 : Rel w.K none B H (σ.set i (some (.ref a))) (ρ.set i .no) := r0.put i _ .no (fun _ z => by cases z) (fun _ z => by cases z) fun _ _ z => by cases z
    have back : ∀ {j : Nat} {x : Sl}, (ρ.set i (.exc c f))[j]? = some x → (∀ c' f', x ≠ .exc c' f') → (ρ.set i .no)[j]? = some x := fun {j x} z hn => by
      rcases get_set z with ⟨_, q⟩ | ⟨n, q⟩
      · exact absurd q (hn c f)
      · rw [List.getElem?_set_ne (Ne.symm n)]; exact q
    refine ⟨s.ext, ⟨?_, r1.sub, fun j d' z => r1.dat j d' (back z fun _ _ q => by cases q), fun j ds z => r1.own j ds (back z fun _ _ q => by cases q), fun j l d1 d2 b z1 z2 => r1.sep j l d1 d2 b (back z1 fun _ _ q => by cases q) (back z2 fun _ _ q => by cases q), fun j c' f' z => ?_⟩, fun j ds b z1 z2 => ?_⟩
    · have := r0.len
      show (σ.set i _).length = (ρ.set i _).length
      rw [List.length_set, List.length_set]; exact this
    · rcases get_set z with ⟨rfl, q⟩ | ⟨n, q⟩
      · cases q
        have hl := (List.getElem?_eq_some_iff.mp z).1
        have hl2 : j < ρ.length := by
          have := hl
          show j < ρ.length
          simpa [inS] using this
        have hlen := r0.len
        exact ⟨a, d, nm, rfl, by show (σ.set j _)[j]? = _; rw [List.getElem?_set_self (by omega)], e3, e4⟩
      · exact absurd q (none_ j c' f')
    · have z1 : (ρ.set i (.exc c f))[j]? = some (.own ds) := z1
      have z2 : (σ.set i (some (.ref a)))[j]? = some (some (.ref b)) := z2
      rcases get_set z1 with ⟨_, q⟩ | ⟨n, q⟩
      · cases q
      · rw [List.getElem?_set_ne (Ne.symm n)] at z2
        exact s.fr j ds b q z2
def offS (σ : L2.St) : Option Nat → L2.St
  | some i => σ.set i none
  | none => σ
theorem SInv.out {B0 H0 B H : Hp} {σ : L2.St} {ρ : List Sl} {sx} {W : WX} (s : SInv ⟨w.K, w.ct, sx, W⟩ B0 H0 B H σ ρ) (hx : w.sx = none) (n : Option Nat) (ha : (outS ρ n).all noX = true) : SInv w B0 H0 B H (offS σ n) (outS ρ n) := by
  have none_ : ∀ (i c' : Nat) (f' : Option D), (outS ρ n)[i]? ≠ some (.exc c' f') := fun i c' f' z => by
    have := List.all_eq_true.mp ha _ (List.mem_of_getElem? z)
    cases this
  have fin : ∀ {τ : L2.St}, Rel w.K sx B H τ (outS ρ n) → Rel w.K w.sx B H τ (outS ρ n) := fun r => ⟨r.len, r.sub, r.dat, r.own, r.sep, fun i c' f' z => absurd z (none_ i c' f')⟩
  cases n with
  | none => exact ⟨s.ext, fin s.rel, s.fr⟩
  | some i =>
    refine ⟨s.ext, fin (s.rel.put i none .no (fun _ z => by cases z) (fun _ z => by cases z) fun _ _ z => by cases z), fun j ds b z1 z2 => ?_⟩
    have z1 : (ρ.set i .no)[j]? = some (.own ds) := z1
    have z2 : (σ.set i none)[j]? = some (some (.ref b)) := z2
    rcases get_set z1 with ⟨_, q⟩ | ⟨n, q⟩
    · cases q
    · rw [List.getElem?_set_ne (Ne.symm n)] at z2
      exact s.fr j ds b q z2
theorem cls_of (C : CtxOk I sc N k F w X) (T : CtxS I w X) : ∀ (hs : List Hd), hs.all (Hd.wf I N sc) = true → ∃ l, ClsOk X (hs.map Hd.py) l ∧
    ∀ (E : Ends) (B0 H0 : Hp) (c : Nat) (f : Option D) (ρ : List Sl), EvS w B0 H0 E (hdl I F hs c f ρ) → ∀ cls dx B H σ, SInv w B0 H0 B H σ ρ → ExcAt w.K w.ct B c f cls dx → wC X.K w.W E l cls dx σ H
  | [], _ => ⟨[], .nil, fun E B0 H0 c f ρ h cls dx B H σ s hx => h cls dx B H σ s hx⟩
  | h :: r, hw => by
    rw [List.all_cons, Bool.and_eq_true] at hw
    obtain ⟨hw1, hw2⟩ := hw
    obtain ⟨l, hl, rd⟩ := cls_of C T r hw2
    simp only [Hd.wf, Bool.and_eq_true, decide_eq_true_eq] at hw1
    obtain ⟨⟨⟨⟨⟨⟨h1, h2⟩, h3⟩, h4⟩, h5⟩, h6⟩, h7⟩ := hw1
    unfold nmOf at h4
    rw [if_neg h3] at h4
    cases hyi : I.exs[h.c]? with
    | none => rw [hyi] at h4; cases h4
    | some yi =>
      rw [hyi] at h4
      have h4 : yi.name = h.y := Option.some.inj h4
      obtain ⟨D0, nm0, EG⟩ := T.exc h.c yi hyi
      refine ⟨⟨.ref D0, h.n.map (·.1), fun a cls d E σ H => ∃ c nm xi Cc, I.exs[c]? = some xi ∧ ExF I X w.ct c xi Cc nm ∧ cls = .ref Cc ∧ tS ⟨w.K, w.ct, some (a, c, d, nm), fun _ _ _ _ => False⟩ (xsu I F h.s) E σ H⟩ :: l, ?_, ?_⟩
      · obtain ⟨st, su, hsu⟩ : ∃ st su, h.s.py = st :: su := by
          cases hh : h.s with
          | nil => rw [hh] at h6; cases h6
          | ret e p => exact ⟨_, _, rfl⟩
          | set i x e px p r => exact ⟨_, _, rfl⟩
        have hpy : h.py = .ExceptHandler (some (.Name h.y h.np)) (h.n.map (·.2)) (st :: su) h.p := by rw [Hd.py, hsu]
        rw [List.map_cons, hpy]
        refine ClsOk.cons ⟨C.gx h1, okNm1 h2, .inl (h4 ▸ EG.mg)⟩ ?_ (fun a oe cls d pn hz hf => ?_) hl
        · cases hn : h.n with
          | none => exact trivial
          | some t =>
            obtain ⟨i, x⟩ := t
            rw [hn] at h7
            simp only [Bool.and_eq_true, decide_eq_true_eq] at h7
            exact ⟨C.at h7.1, C.isL h7.2⟩
        · rw [← hsu]
          refine ⟨fun pins s σ H E J ⟨c, nm, xi, Cc, hxi, EF, hcl, q⟩ => ?_⟩
          subst hcl
          exact (sndSu h.s (C.suite (exK_of T (C.bl _ (by decide +kernel)) hxi EF hz hf)) rfl h5).run pins s σ H E J q
      · intro E B0 H0 c f ρ he cls dx B H σ s hx
        unfold hdl at he
        cases hxi : I.exs[c]? with
        | none => rw [hxi] at he; exact he.elim
        | some xi =>
          rw [hxi] at he
          simp only at he
          obtain ⟨C1, nm1, EF⟩ := T.exc c xi hxi
          obtain ⟨C2, nm2, k1, k2, k3, k4⟩ := id hx
          have k1' := k1
          rw [EF.at_] at k1'
          cases k1'
          subst k2
          refine ⟨_, (EF.em h.c yi D0 nm0 hyi EG.at_).1, fun ht a na => ?_, fun hf => ?_⟩
          · rw [if_pos ht] at he
            refine ⟨c, nm1, xi, C1, hxi, EF, rfl, B0, H0, B, _, s.into T.sx a EF.at_ hx _, ?_⟩
            cases eo : xsu I F h.s (inS ρ (h.n.map (·.1)) c f) with
            | rt d =>
              rw [eo] at he
              have : (offE E (h.n.map (·.1))).rt = E.rt := by cases h.n <;> rfl
              exact fun B H v x hd => by
                show (offE E (h.n.map (·.1))).rt v H
                rw [this]
                exact he B H v x hd
            | nx ρ2 =>
              rw [eo] at he
              have he : EvS w B0 H0 E (if (outS ρ2 (h.n.map (·.1))).all noX = true then .nx (outS ρ2 (h.n.map (·.1))) else .stuck) := he
              by_cases hall : (outS ρ2 (h.n.map (·.1))).all noX = true
              · rw [if_pos hall] at he
                intro B' H' σ' s'
                have z := he B' H' _ (s'.out T.sx _ hall)
                cases hn : h.n.map (·.1) with
                | none => rw [hn] at z; exact z
                | some i => rw [hn] at z; exact z
              · rw [if_neg hall] at he
                exact he.elim
            | bk ρ2 => rw [eo] at he; exact he.elim
            | ct ρ2 => rw [eo] at he; exact he.elim
            | ex c2 f2 ρ2 => rw [eo] at he; exact he.elim
            | stuck => rw [eo] at he; exact he.elim
          · rw [if_neg (by rw [hf]; exact Bool.false_ne_true)] at he
            exact rd E B0 H0 c f ρ he _ dx B H σ s hx
theorem s_try (C : CtxOk I sc N k F w X) (T : CtxS I w X) {b : Ss} {hs : List Hd} {p : Pos} (hb : ∀ (W : WX) (pn : List (Addr × Obj)) (xe : Value → Shared → Prop), Takes (X.tr pn xe) W → PassesOwn (model X.prog X.w) X.A X.env xe → PSs (X.tr pn xe) b.py (tS { w with W := W } (exb I F b)))
    (hh : hs.all (Hd.wf I N sc) = true) (hne : hs.isEmpty = false) : PS X (S.try_ b hs p).py (tS w (exs I F (.try_ b hs p))) := by
  obtain ⟨l, hl, rd⟩ := cls_of C T hs hh
  match hs, hne, hl, rd with
  | h :: r, _, hl, rd =>
    refine PS.imp (ps_tryC T.stk T.frm C.ndX C.tk hb hl) fun E σ H ⟨B0, H0, B, ρ, s, q⟩ => ?_
    have conv : ∀ {B H : Hp} {σ : L2.St} {ρ : List Sl} {W : WX}, SInv w B0 H0 B H σ ρ → SInv { w with W := W } B0 H0 B H σ ρ := fun s => ⟨s.ext, s.rel, s.fr⟩
    have back : ∀ {B H : Hp} {σ : L2.St} {ρ : List Sl} {W : WX}, SInv { w with W := W } B0 H0 B H σ ρ → SInv w B0 H0 B H σ ρ := fun s => ⟨s.ext, s.rel, s.fr⟩
    refine ⟨B0, H0, B, ρ, conv s, ?_⟩
    unfold exs at q
    cases eo : exb I F b ρ with
    | nx ρ2 => rw [eo] at q; exact fun B H σ s => q B H σ (back s)
    | rt d => rw [eo] at q; exact q
    | bk ρ2 => rw [eo] at q; exact fun B H σ s => q B H σ (back s)
    | ct ρ2 => rw [eo] at q; exact fun B H σ s => q B H σ (back s)
    | ex c f ρ2 => rw [eo] at q; exact fun cls dx B H σ s hx => rd E B0 H0 c f ρ2 q cls dx B H σ (back s) hx
    | stuck => rw [eo] at q; exact q

theorem whole_wf {I : Info} {N : List Str} {sc : Scope} {X : Cx} (T : CtxS I w X) {e : E} (h : e.wf I N sc true = true) : e.wf I N sc X.calm = true := by rw [T.calm]; exact h
mutual
theorem sndS : ∀ (st : S) {sc : Scope} {w : Wd} {X : Cx} (C : CtxOk I sc N k F w X) (T : CtxS I w X), st.wf I N sc = true → PS X st.py (tS w (exs I F st))
  | .expr e p, sc, w, X, C, T, h => by
    have h := and2 h
    refine PS.imp (ps_expr (snd e C (whole_wf T h.1)).v (hs := swap_py (not_b h.2) _ _ _)) fun E σ H ⟨B0, H0, B, ρ, s, q⟩ => ?_
    exact tEi (sR s q) fun v H' ⟨d, B', e1, x1, s1, hd, q1⟩ => q1 _ _ _ s1
  | .app i x e px pa pc p, sc, w, X, C, T, h => s_app C h T.calm
  | .ext i x e px pa pc p, sc, w, X, C, T, h => s_ext C h T.calm
  | .ins i x a b px pa pc p, sc, w, X, C, T, h => s_ins C h T.calm
  | .set i x e px p, sc, w, X, C, T, h => s_set C T h
  | .setF i x e px p, sc, w, X, C, T, h => s_setF C T h
  | .par i x px j y py kt pt a b kv pv p, sc, w, X, C, T, h => s_par C T h
  | .par3 i x px j y py l z pz kt pt a b c kv pv p, sc, w, X, C, T, h => s_par3 C T h
  | .unp tg e p, sc, w, X, C, T, h => s_unp C T h
  | .aug i x e px p, sc, w, X, C, T, h => s_aug C T h
  | .ite t a b p, sc, w, X, C, T, h => by
    have h1 := and2 h
    have h2 := and2 h1.1
    refine PS.imp (ps_if (snd t C (whole_wf T h2.1)).t (sndSs a C T h2.2) (sndSs b C T h1.2)) fun E σ H ⟨B0, H0, B, ρ, s, q⟩ => ?_
    unfold exs at q
    refine tTi (sRT s q) fun k H' ⟨B', e1, x1, s1, q1⟩ => ?_
    cases k with
    | true => rw [if_pos rfl] at q1 ⊢; exact ⟨B0, H0, B', ρ, s1, q1⟩
    | false => rw [if_neg Bool.false_ne_true] at q1 ⊢; exact ⟨B0, H0, B', ρ, s1, q1⟩
  | .for_ tg it b p, sc, w, X, C, T, h => by
    have h1 := and2 h
    have h2 := and2 h1.1
    have h3 := and2 h2.1
    refine PS.imp (ps_for T.pass T.calm (sndi it tg C T.calm (by rw [T.calm]; exact h3.2) h2.2) (p_tg C T.calm h3.1) (sndSs b C T h1.2) (fun x => fold_it it X.env x)) fun E σ H z => ?_
    exact for_read (fun _ _ _ z => z) (by unfold exs at z; exact z)
  | .while_ t b p, sc, w, X, C, T, h => by
    have h1 := and2 h
    refine PS.imp (ps_while T.pass (snd t C (whole_wf T h1.1)).t (sndSs b C T h1.2)) fun E σ H z => ?_
    exact while_read (fun _ _ _ z => z) (fun _ _ _ z => z) (by unfold exs at z; exact z)
  | .ret e p, sc, w, X, C, T, h => by
    refine PS.imp (ps_ret (snd e C (whole_wf T h)).v) fun E σ H ⟨B0, H0, B, ρ, s, q⟩ => ?_
    refine tEi (sR s q) fun v H' ⟨d, B', e1, x1, s1, hd, q1⟩ => q1 B' H' v s1.ext hd
  | .rais c y m kk py pm pc p, sc, w, X, C, T, h => s_rais C T h
  | .raisF c y e py pc p, sc, w, X, C, T, h => s_raisF C T h
  | .try_ b hs p, sc, w, X, C, T, h => by
    have h1 := and2 h
    have h2 := and2 h1.1
    exact s_try C T (fun W pn xe tk ps => sndSs b (C.tr tk T) (T.tr ps) h2.1) h2.2 (not_b h1.2)
  | .brk p, sc, w, X, C, T, h => PS.imp ps_break fun E σ H ⟨B0, H0, B, ρ, s, q⟩ => by unfold exs at q; exact q _ _ _ s
  | .cont p, sc, w, X, C, T, h => PS.imp ps_continue fun E σ H ⟨B0, H0, B, ρ, s, q⟩ => by unfold exs at q; exact q _ _ _ s
  | .pass p, sc, w, X, C, T, h => PS.imp ps_pass fun E σ H ⟨B0, H0, B, ρ, s, q⟩ => by unfold exs at q; exact q _ _ _ s
theorem sndSs : ∀ (b : Ss) {sc : Scope} {w : Wd} {X : Cx} (C : CtxOk I sc N k F w X) (T : CtxS I w X), b.wf I N sc = true → PSs X b.py (tS w (exb I F b))
  | .nil, sc, w, X, C, T, h => PSs.imp pss_nil fun E σ H ⟨B0, H0, B, ρ, s, q⟩ => by unfold exb at q; exact q _ _ _ s
  | .cons st r, sc, w, X, C, T, h => by
    have h := and2 h
    refine PSs.imp (pss_cons (sndS st C T h.1) (sndSs r C T h.2)) fun E σ H ⟨B0, H0, B, ρ, s, q⟩ => ⟨B0, H0, B, ρ, s, ?_⟩
    unfold exb at q
    cases eo : exs I F st ρ with
    | nx ρ2 => rw [eo] at q; exact fun B H σ t => ⟨B0, H0, B, ρ2, t, q⟩
    | ct ρ2 => rw [eo] at q; exact q
    | bk ρ2 => rw [eo] at q; exact q
    | rt d => rw [eo] at q; exact q
    | ex c f ρ2 => rw [eo] at q; exact q
    | stuck => rw [eo] at q; exact q
  | .fz i r, sc, w, X, C, T, h => PSs.imp (sndSs r C T h) fun E σ H ⟨B0, H0, B, ρ, s, q⟩ => by
    unfold exb at q
    split at q
    · rename_i ds ho
      obtain ⟨B', s'⟩ := s.fz ho
      exact ⟨B0, H0, B', _, s', q⟩
    · exact ⟨B0, H0, B, ρ, s, q⟩
end
end
end CH

/-! CH 18: the table of functions; the law's call. -/
namespace CH
open PySem PySem.Spec PyProof.Rows L2

/-- a def: its text, its name, its slots, its parameters, the last ones' defaults, its body in the small language -/
structure DefI where
  st : Stmt
  nm : Str
  N : List Str
  ps : List Str
  dfl : List D
  kw : Str
  body : Ss
def DefI.fi (d : DefI) : FInfo := ⟨d.nm, d.ps.length, d.dfl, d.kw⟩
/-- the functions, by how deep their calls may go -/
def callF (I : Info) (ds : List DefI) : Nat → FT
  | 0 => fun _ _ => .stuck
  | k + 1 => fun f args => match ds[f]? with
    | some d => runB I (callF I ds k) d.N.length d.body args
    | none => .stuck
/-- what is seen from the text -/
def scOk (N P : List Str) (sc : Scope) : Bool :=
  decide (sc.kind = .function) && !sc.isCoroutine && !sc.isGenerator && decide N.Nodup && decide (N.take P.length = P) && P.all (fun x => decide (sc.names.lookup x = some .local) || decide (sc.names.lookup x = some .cell)) && sc.names.all (fun y => !decide (y.2 = .free))
theorem scOk_of {N P : List Str} {sc : Scope} (h : scOk N P sc = true) : FnScope N P sc := by
  unfold scOk at h
  simp only [Bool.and_eq_true, Bool.not_eq_true', decide_eq_true_eq, List.all_eq_true, Bool.or_eq_true, decide_eq_false_iff_not] at h
  obtain ⟨⟨⟨⟨⟨⟨h1, h2⟩, h3⟩, h4⟩, h5⟩, h6⟩, h7⟩ := h
  exact ⟨h1, h2, h3, h4, h5, h6, h7⟩
structure DefT (I : Info) (d : DefI) : Prop where
  eq : defBody d.st = d.body.py
  wf : d.body.wf I d.N (defScope d.st) = true
  sc : scOk d.N d.ps (defScope d.st) = true
/-- a def as it stands behind the top -/
structure DefW (K : PySem.W.Frag) (mg : Str → Option Value) (d : DefI) (f : Addr) (fd : FuncData) : Prop where
  ex : ∃ (oc : Value) (od : Option Addr) (dV kV doc pm : Value) (an : Option Addr) (cdv ct : Value) (osl : Array (Option Value)),
    fd = PySem.W.fnOf d.nm d.nm (defArgs d.st) (defBody d.st) (defScope d.st) dV kV doc pm an cdv ct ∧ K.lookup f = some ⟨oc, od, .func fd, osl⟩ ∧ PySem.W.codeIn K cdv d.nm = true
  kp : PySem.W.keepIn K (.ref f) = true
  mgf : mg d.nm = some (.ref f)
  bd : ∀ n, n ≤ d.ps.length → d.ps.length - n ≤ d.dfl.length → ∃ ds dvs, Binds K fd d.ps ds ∧ Vals dvs ds ∧ dvs.length = d.ps.length - n ∧ DpAll K (fun _ => none) dvs (d.fi.fill n)
  kb : d.kw ≠ "" → ∃ g gV, KBn K fd d.ps (d.ps.length - 1) [d.kw] g gV ∧ ∀ vs z, gV vs [z] = vs ++ [z]
/-- a def without defaults -/
theorem DefW.plain {K : PySem.W.Frag} {mg : Str → Option Value} {st : Stmt} {nm : Str} {N ps : List Str} {body : Ss} {f : Addr} {oc : Value} {od an : Option Addr} {osl : Array (Option Value)} {kV doc pm cdv ct : Value}
    (hm : mg nm = some (.ref f)) (l : K.lookup f = some ⟨oc, od, .func (PySem.W.fnOf nm nm (defArgs st) (defBody st) (defScope st) .none kV doc pm an cdv ct), osl⟩)
    (c : PySem.W.codeIn K cdv nm = true) (k : PySem.W.keepIn K (.ref f) = true)
    (h : ∀ (us : List Value), us.length = ps.length → bindArgs (PySem.W.fnOf nm nm (defArgs st) (defBody st) (defScope st) .none kV doc pm an cdv ct) ⟨us, []⟩ = pure (ps.zip us)) :
    DefW K mg ⟨st, nm, N, ps, [], "", body⟩ f (PySem.W.fnOf nm nm (defArgs st) (defBody st) (defScope st) .none kV doc pm an cdv ct) :=
  ⟨⟨oc, od, .none, kV, doc, pm, an, cdv, ct, osl, rfl, l, c⟩, k, hm, fun n h1 h2 => ⟨[], [], .all h, .nil, by
    have h2 : ps.length - n ≤ 0 := h2
    show 0 = ps.length - n
    omega, by
    have e : FInfo.fill ⟨nm, ps.length, [], ""⟩ n = [] := by simp [FInfo.fill]
    show DpAll K _ [] (FInfo.fill ⟨nm, ps.length, [], ""⟩ n)
    rw [e]; exact .nil⟩, fun z => absurd rfl z⟩

/-- a def with one default -/
theorem DefW.one {K : PySem.W.Frag} {mg : Str → Option Value} {st : Stmt} {nm : Str} {N ps : List Str} {body : Ss} {f T : Addr} {oc u : Value} {od an : Option Addr} {osl : Array (Option Value)} {kV doc pm cdv ct : Value} {o : Obj} {m : Nat} {v : V} {dv : D} {kw : Str}
    (hm : mg nm = some (.ref f)) (l : K.lookup f = some ⟨oc, od, .func (PySem.W.fnOf nm nm (defArgs st) (defBody st) (defScope st) (.ref T) kV doc pm an cdv ct), osl⟩)
    (c : PySem.W.codeIn K cdv nm = true) (k : PySem.W.keepIn K (.ref f) = true) (lT : K.lookup T = some o) (oT : o.data = .seq [u].toArray m) (hv : RelV v u) (hd : Dp K (fun _ => none) v dv) (hp : 1 ≤ ps.length)
    (h : ∀ (n j : Nat), (n = ps.length ∧ j = 1 ∨ n + 1 = ps.length ∧ j = 0) → ∀ (T : Addr) (kV doc pm : Value) (an : Option Addr) (cdv ct : Value) (us its : List Value), us.length = n → its.length = 1 →
      ∃ k, bindArgs (PySem.W.fnOf nm nm (defArgs st) (defBody st) (defScope st) (.ref T) kV doc pm an cdv ct) ⟨us, []⟩ = seqItems? (.ref T) >>= k ∧ k (some its.toArray) = pure (ps.zip (us ++ its.drop j)))
    (hkw : ∀ (T : Addr) (kV doc pm : Value) (an : Option Addr) (cdv ct : Value) (us its ws : List Value), us.length + 1 = ps.length → its.length = 1 → ws.length = 1 →
      ∃ k, bindArgs (PySem.W.fnOf nm nm (defArgs st) (defBody st) (defScope st) (.ref T) kV doc pm an cdv ct) ⟨us, [kw].zip ws⟩ = seqItems? (.ref T) >>= k ∧ k (some its.toArray) = pure (ps.zip (us ++ ws))) :
    DefW K mg ⟨st, nm, N, ps, [dv], kw, body⟩ f (PySem.W.fnOf nm nm (defArgs st) (defBody st) (defScope st) (.ref T) kV doc pm an cdv ct) := by
  have FD : FunD K nm nm (defArgs st) (defBody st) (defScope st) [v] [] f (PySem.W.fnOf nm nm (defArgs st) (defBody st) (defScope st) (.ref T) kV doc pm an cdv ct) :=
    ⟨⟨oc, od, .ref T, kV, doc, pm, an, cdv, ct, osl, rfl, l, c, .inr ⟨by simp, T, o, [u], m, rfl, lT, oT, .cons hv .nil⟩, .inl rfl⟩, k⟩
  refine ⟨⟨oc, od, .ref T, kV, doc, pm, an, cdv, ct, osl, rfl, l, c⟩, k, hm, fun n h1 h2 => ?_, fun _ => ?_⟩
  rotate_left
  · refine ⟨fun us ws => us ++ ws, fun vs zs => vs ++ zs, ⟨fun s us ws X l1 l2 => ?_, fun r1 r2 => r1.append r2⟩, fun vs z => rfl⟩
    have l1 : us.length = ps.length - 1 := l1
    have rT : Vals [v] [u] := .cons hv .nil
    obtain ⟨k, e1, e2⟩ := hkw T kV doc pm an cdv ct us [u] ws (by omega) rfl l2
    refine BindsTo.of_looks fun M => ?_
    rw [e1]
    exact looks_items X lT oT (.of_pure e2)
  have h1 : n ≤ ps.length := h1
  have h2 : ps.length - n ≤ 1 := h2
  by_cases e : n = ps.length
  · obtain ⟨ds, r, b⟩ := FD.binds1 (ps := ps) n 1 (by simp) (by simp; exact e) (h n 1 (.inl ⟨e, rfl⟩))
    refine ⟨ds, [], b, r, by show 0 = ps.length - n; omega, ?_⟩
    have z : FInfo.fill ⟨nm, ps.length, [dv], kw⟩ n = [] := by simp [FInfo.fill, e]
    show DpAll K _ [] (FInfo.fill ⟨nm, ps.length, [dv], kw⟩ n)
    rw [z]; exact .nil
  · have e2 : n + 1 = ps.length := by omega
    obtain ⟨ds, r, b⟩ := FD.binds1 (ps := ps) n 0 (by simp) (by simp; exact e2) (h n 0 (.inr ⟨e2, rfl⟩))
    refine ⟨ds, [v], b, r, by show 1 = ps.length - n; omega, ?_⟩
    have z : FInfo.fill ⟨nm, ps.length, [dv], kw⟩ n = [dv] := by simp [FInfo.fill, show ps.length - n = 1 by omega]
    show DpAll K _ [v] (FInfo.fill ⟨nm, ps.length, [dv], kw⟩ n)
    rw [z]; exact .cons hd .nil

/-- C.__init__(self, ..), C an own class under ValueError without an own __init__ -/
theorem pe_cinit {X : Cx} {x : Str} {C0 : Addr} {e : Expr} {es : List Expr} {ta : TA} {p1 p2 pos : Pos} (hg : Gl X x) (hm : X.mg x = some (.ref C0)) (dx : (x == ("__debug__" : Str)) = false) (ga : PySem.W.specialIn X.K (.ref C0) "__getattribute__" = some (some (.builtin "type.__getattribute__")))
    (rd : PySem.W.readsIn X.K C0 (.type "type") = true) (fc : PySem.W.findCls X.K (.ref C0) (.type "type") "__init__" = some (.val (.builtin "ValueError.__init__"))) {pl : Sem Bool} (ha : PA X (e :: es) ta)
    (hc : eval (.Call (.Attribute (.Name x p1) "__init__" p2) (e :: es) [] pos) X.env = (do
      let ov ← eval (.Name x p1) X.env
      standAt p2.atName
      let (f, first) ← holding [ov] (getMethod ov "__init__" pl)
      callWith pos f first (backTo pos (starEach (e :: es) X.env)) (backToKw pos (keywordEach [] X.env))))
    (he : starEach (e :: es) X.env = (false, eval e X.env) :: starEach es X.env) (hpl : (backTo pos (starEach es X.env)).any (·.1) = false) :
    PE X (.Call (.Attribute (.Name x p1) "__init__" p2) (e :: es) [] pos) (tVeI X.K ta) := by
  refine ⟨fun pins s σ H Q I h => ?_⟩
  refine PySem.W.methodCall_KW (ld_glob I hg hm ?_ dx) hc
  refine PySem.W.method_cls I.kIn ga (PySem.W.cls_value I.kIn rd fc (by decide +kernel) ?_)
  show wpAny _ _ (callWith pos (Value.builtin "ValueError.__init__") [] (backTo pos (starEach (e :: es) X.env)) []) _ _ _
  refine PyProof.Rows.callWith_method1 (thn (ha.run pos pins _ σ H _ (I.tok _) h) fun us s1 ⟨vs, H1, I1, r1, a, C, ws, ev, hl, T, ea, q⟩ => ?_) he hpl
  subst ev
  cases r1 with
  | @cons _ u0 _ ur ra rw' =>
    obtain rfl : u0 = Value.ref a := ra
    have hlen : ur.length ≤ sizeLine := by
      rw [← Paired.length rw', sizeLine_eq]
      omega
    exact oinit_ok T I1 ea hlen fun s' J => ⟨.non, H1, J, rfl, q⟩
def clsBody : Stmt → List Stmt
  | .ClassDef _ _ _ b _ _ _ _ _ _ _ => b
  | _ => []
/-- the written form of an own exception's __init__ -/
structure IniF (st : Stmt) (x f m : Str) : Prop where
  eq : ∃ (kk : Nat) (p1 p2 p3 p4 p5 p6 p7 p8 p9 p10 : Pos), defBody st = [.Expr (.Call (.Attribute (.Name x p1) "__init__" p2) [.Name "self" p3, .Constant (.str m) kk p4] [] p5) p6, .Assign [.Attribute (.Name "self" p7) f p8] (.Name f p9) p10] ∧
    ∀ env : Env, ∃ pl : Sem Bool, eval (.Call (.Attribute (.Name x p1) "__init__" p2) [.Name "self" p3, .Constant (.str m) kk p4] [] p5) env = (do
      let ov ← eval (.Name x p1) env
      standAt p2.atName
      let (f, first) ← holding [ov] (getMethod ov "__init__" pl)
      callWith p5 f first (backTo p5 (starEach [.Name "self" p3, .Constant (.str m) kk p4] env)) (backToKw p5 (keywordEach [] env)))
  sc : FnScope ["self", f] ["self", f] (defScope st)
  gx : glB (defScope st) x = true
  nx : okNm x = true
  nf : okNm f = true
/-- what is known of an exception class of the table -/
structure XW (K : PySem.W.Frag) (mg : Str → Option Value) (I : Info) (ct : Nat → Option (Addr × Str)) (c : Nat) (xi : XInfo) (C : Addr) (nm : Str) : Prop where
  at_ : ct c = some (C, nm)
  mgc : mg xi.name = some (.ref C)
  kp : PySem.W.keepIn K (.ref C) = true
  ty : PySem.W.typeIn K (.ref C) = some (.type "type")
  plain : xi.field = none → ∃ B newId initId bmB, ExcBaseFacts B newId initId bmB ∧ PySem.W.excIn K C bmB newId = true
  ec : L2.ExcC K C
  fld : ∀ f, xi.field = some f → f = nm ∧ PySem.W.findIn K (.ref C) f = some none
  sb : ∀ (cc : Nat) (yi : XInfo) (D : Addr) (nm' : Str), I.exs[cc]? = some yi → ct cc = some (D, nm') → PySem.W.subIn K (.ref C) (.ref D) = some (xi.up.contains cc)
  ve : PySem.W.subIn K (.ref C) (.type "ValueError") = some (xi.up.contains 99)
  selfm : PySem.W.subIn K (.ref C) (.ref C) = some true
  ini : ∀ f, xi.field = some f → OexC K C ∧ ∃ (fI C0 : Addr) (x m : Str) (st : Stmt) (qual : Str) (oc : Value) (od : Option Addr) (dV kV doc pm : Value) (an : Option Addr) (cdv cty : Value) (osl : Array (Option Value)), PySem.W.findIn K (.ref C) "__init__" = some (some (.ref fI)) ∧ PySem.W.typeIn K (.ref fI) = some (.type "function") ∧
    K.lookup fI = some ⟨oc, od, .func (PySem.W.fnOf "__init__" qual (defArgs st) (defBody st) (defScope st) dV kV doc pm an cdv cty), osl⟩ ∧ PySem.W.codeIn K cdv qual = true ∧ IniF st x f m ∧ mg x = some (.ref C0) ∧
    PySem.W.specialIn K (.ref C0) "__getattribute__" = some (some (.builtin "type.__getattribute__")) ∧ PySem.W.readsIn K C0 (.type "type") = true ∧ PySem.W.findCls K (.ref C0) (.type "type") "__init__" = some (.val (.builtin "ValueError.__init__")) ∧
    Binds K (PySem.W.fnOf "__init__" qual (defArgs st) (defBody st) (defScope st) dV kV doc pm an cdv cty) ["self", f] []
/-- all that a row's world must give -/
structure World' (K : PySem.W.Frag) (mg : Str → Option Value) (I : Info) (ds : List DefI) (ct : Nat → Option (Addr × Str)) : Prop where
  I_fns : I.fns = ds.map DefI.fi
  defs : ∀ (i : Nat) (d : DefI), ds[i]? = some d → DefT I d ∧ ∃ f fd, DefW K mg d f fd
  gl : ∀ (g : Nat) (x : Str) (d : D), I.globs[g]? = some (x, d) → ∃ u v, mg x = some u ∧ RelV v u ∧ Dp K (fun _ => none) v d
  bl : ∀ x ∈ bltNames, mg x = none
  vn : mg "ValueError" = none
  exc : ∀ (c : Nat) (xi : XInfo), I.exs[c]? = some xi → ∃ (C : Addr) (nm : Str), XW K mg I ct c xi C nm

theorem kit_ref {K : PySem.W.Frag} {C D : Addr} {b : Bool} (hd : PySem.W.hasDictIn K D = true) (ht : PySem.W.typeIn K (.ref D) = some (.type "type")) (h : PySem.W.subIn K (.ref C) (.ref D) = some b) (hs : C = D → b = true) : PySem.W.kitOne K (.ref C) (.ref D) = some b := by
  have hcls : (PySem.W.clsIn K D).isSome = true := by
    obtain ⟨cd, hc, _⟩ := PySem.W.any_some hd
    rw [hc]; rfl
  unfold PySem.W.kitOne
  by_cases e : C = D
  · subst e
    rw [if_pos (by simp), hs rfl]
  · rw [if_neg (by simpa using e)]
    show (if ((PySem.W.clsIn K D).isSome && PySem.W.typeIn K (.ref D) == some (.type "type")) = true then PySem.W.subIn K (.ref C) (.ref D) else none) = some b
    rw [if_pos (by rw [hcls, ht]; rfl)]
    exact h
theorem kit_ve {K : PySem.W.Frag} {C : Addr} {b : Bool} (h : PySem.W.subIn K (.ref C) (.type "ValueError") = some b) : PySem.W.kitOne K (.ref C) (.type "ValueError") = some b := by
  unfold PySem.W.kitOne
  rw [if_neg (by simp)]
  show (if PySem.W.kitMeta "ValueError" = true then PySem.W.subIn K (.ref C) (.type "ValueError") else none) = some b
  rw [if_pos (by decide +kernel)]
  exact h
theorem raises_of {X : Cx} {C : Addr} (h1 : PySem.W.subIn X.K (.ref C) (.type "BaseException") = some true) (h2 : PySem.W.typeIn X.K (.ref C) = some (.type "type")) : Raises X (.ref C) := raises_own h1 h2
section
variable {K : PySem.W.Frag} {mg : Str → Option Value} {I : Info} {ct : Nat → Option (Addr × Str)} {P : Program} {w : World} {base : Heap}
theorem ini_ok {C : Addr} {f x m : Str} {st : Stmt} {qual : Str} {fI C0 : Addr} {oc dV kV doc pm cdv cty : Value} {od an : Option Addr} {osl : Array (Option Value)} (OX : OexC K C) (no : PySem.W.findIn K (.ref C) f = some none)
    (lk : K.lookup fI = some ⟨oc, od, .func (PySem.W.fnOf "__init__" qual (defArgs st) (defBody st) (defScope st) dV kV doc pm an cdv cty), osl⟩) (hcd : PySem.W.codeIn K cdv qual = true) (F : IniF st x f m) (hm : mg x = some (.ref C0))
    (ga : PySem.W.specialIn K (.ref C0) "__getattribute__" = some (some (.builtin "type.__getattribute__"))) (rd : PySem.W.readsIn K C0 (.type "type") = true) (fc : PySem.W.findCls K (.ref C0) (.type "type") "__init__" = some (.val (.builtin "ValueError.__init__"))) :
    FnOk P w K mg base (L2.CX P w) 5 fI (PySem.W.fnOf "__init__" qual (defArgs st) (defBody st) (defScope st) dV kV doc pm an cdv cty) ["self", f] (spIni C f) := by
  obtain ⟨kk, p1, p2, p3, p4, p5, p6, p7, p8, p9, p10, eb, ep⟩ := F.eq
  refine fn_of (k := 4) lk hcd F.sc (fun vs H Q E h => by obtain ⟨a, y, rfl, _⟩ := h; rfl) fun A outer s H vs Q E hr h => ?_
  obtain ⟨a, y, rfl, ha, q⟩ := h
  rw [eb]
  have gx : Gl (cxOf (L2.CX P w) P w K mg base ["self", f] qual (defScope st) fI cdv A outer s H E) x := by
    have z := F.gx
    unfold glB at z
    split at z
    · rename_i e; exact e
    · cases z
  have v0 : Vis (defScope st) "self" := by
    rcases F.sc.par "self" (List.mem_cons_self ..) with e | e
    · exact .inl e
    · exact .inr (.inl e)
  have v1 : Vis (defScope st) f := by
    rcases F.sc.par f (List.mem_cons_of_mem _ (List.mem_cons_self ..)) with e | e
    · exact .inl e
    · exact .inr (.inl e)
  obtain ⟨pl, hc⟩ := ep (cxOf (L2.CX P w) P w K mg base ["self", f] qual (defScope st) fI cdv A outer s H E).env
  refine ⟨_, pss_cons (ps_expr (pe_cinit gx hm (okNm1 F.nx) ga rd fc (pa_cons (pe_var (i := 0) rfl v0) (pa_cons pe_str pa_nil)) hc rfl rfl)) (pss_one (ps_ost (f := f) (pe_var (i := 0) rfl v0) (pe_var (i := 1) rfl v1 (okNm1 F.nf) (okNm2 F.nf)))), ?_⟩
  refine ⟨.ref a, rfl, a, C, [.str m], rfl, by simp, OX, ha, ?_⟩
  refine ⟨y, rfl, .ref a, rfl, a, C, rfl, OX, no, .inl ⟨ha, fun dx hd ne => ?_⟩⟩
  exact q dx hd ne
end
section
variable {K : PySem.W.Frag} {mg : Str → Option Value} {I : Info} {ds : List DefI} {ct : Nat → Option (Addr × Str)} {P : Program} {w : World} {base : Heap}
theorem start_rel {vs : List V} {es : List D} {B H : Hp} {n : Nat} {sx} (sb : Same B H) (r : DpAll K B vs es) (hn : n = n) : Rel K sx B H (vs.map some ++ List.replicate (n - vs.length) none) (es.map Sl.dat ++ List.replicate (n - es.length) Sl.no) := by
  have hl := r.length
  have key : ∀ (i : Nat) (s : Sl), (es.map Sl.dat ++ List.replicate (n - es.length) Sl.no)[i]? = some s → (∃ d, s = .dat d ∧ es[i]? = some d) ∨ s = .no := fun i s h => by
    by_cases hi : i < es.length
    · rw [List.getElem?_append_left (by simpa using hi), List.getElem?_map] at h
      cases e : es[i]? with
      | none => rw [e] at h; cases h
      | some d => rw [e] at h; cases h; exact .inl ⟨d, rfl, rfl⟩
    · rw [List.getElem?_append_right (by simpa using hi), List.getElem?_replicate] at h
      split at h
      · cases h; exact .inr rfl
      · cases h
  refine ⟨by simp [hl], sb, fun i d h => ?_, fun i ds h => ?_, fun i j d1 d2 a h => ?_, fun i c f h => ?_⟩
  · rcases key i _ h with ⟨d', e, h⟩ | e
    · cases e
      obtain ⟨v, hv, hp⟩ := r.get h
      refine ⟨v, ?_, hp⟩
      rw [List.getElem?_append_left (by
        have := (List.getElem?_eq_some_iff.mp hv).1
        simpa using this), List.getElem?_map, hv]
      rfl
    · cases e
  · rcases key i _ h with ⟨d', e, _⟩ | e <;> cases e
  · rcases key i _ h with ⟨d', e, _⟩ | e <;> cases e
  · rcases key i _ h with ⟨d', e, _⟩ | e <;> cases e
theorem defs_ok (Wd' : World' K mg I ds ct) : ∀ (k i : Nat) (d : DefI) (f : Addr) (fd : FuncData), ds[i]? = some d → DefW K mg d f fd → FnOk P w K mg base (L2.CX P w) (k + 20) f fd d.ps (spD K ct d.ps.length (callF I ds k i))
  | 0, i, d, f, fd, e, DW => ⟨fun vs H Q E h => h.1, fun A outer s H args us vs Q E _ _ _ _ h => by
      obtain ⟨_, B, es, _, _, h⟩ := h
      exact h.elim⟩
  | k + 1, i, d, f, fd, e, DW => by
    obtain ⟨oc, od, dV, kV, doc, pm, an, cdv, cty, osl, rfl, lk, hcd⟩ := DW.ex
    have T := (Wd'.defs i d e).1
    have S := scOk_of T.sc
    show FnOk P w K mg base (L2.CX P w) ((k + 20) + 1) f _ d.ps _
    refine fn_of lk hcd S (fun vs H Q E h => h.1) fun A outer s H vs Q E hr h => ?_
    obtain ⟨hl, B, es, sb, r, h⟩ := h
    have hle := r.length
    have hps : d.ps.length ≤ d.N.length := by
      have := congrArg List.length S.pre
      rw [List.length_take] at this; omega
    have h : Ev ⟨K, ct, none, fun cls dx _ H' => E cls dx H'⟩ B H [] Q (runB I (callF I ds k) d.N.length d.body es) := by
      have z : callF I ds (k + 1) i es = runB I (callF I ds k) d.N.length d.body es := by
        show (match ds[i]? with | some d => _ | none => _) = _
        rw [e]
      rw [← z]; exact h
    have C : CtxOk I (defScope d.st) d.N k (callF I ds k) ⟨K, ct, none, fun cls dx _ H' => E cls dx H'⟩ (cxOf (L2.CX P w) P w K mg base d.N d.nm (defScope d.st) f cdv A outer s H E) := by
      refine ⟨rfl, rfl, S.nd, fun x kd e _ => e, fun x e => absurd rfl (S.nofree _ (PySem.mem_of_lookup e)), fun _ _ => rfl, ?_, fun _ => hr, takes_of rfl rfl rfl rfl, Wd'.gl, Wd'.bl, fun _ f' fi hf => ?_, fun a c dx nm e => by cases e⟩
      · have hu := hr.un
        show (A.deeper _).units + 500 < cLine
        omega
      · rw [Wd'.I_fns, List.getElem?_map] at hf
        cases e' : ds[f']? with
        | none => rw [e'] at hf; cases hf
        | some d' =>
          rw [e'] at hf
          cases hf
          obtain ⟨fa', fd', DW'⟩ := (Wd'.defs f' d' e').2
          exact ⟨fa', fd', d'.ps, defs_ok Wd' k f' d' fa' fd' e' DW', DW'.mgf, DW'.kp, DW'.bd, DW'.kb⟩
    have CS : CtxS I ⟨K, ct, none, fun cls dx _ H' => E cls dx H'⟩ (cxOf (L2.CX P w) P w K mg base d.N d.nm (defScope d.st) f cdv A outer s H E) := by
      refine ⟨rfl, passes_of rfl, S.kind, rfl, rfl, rfl, Wd'.vn, fun c xi hx => ?_⟩
      obtain ⟨Cl, nm, W⟩ := Wd'.exc c xi hx
      refine ⟨Cl, nm, W.at_, W.mgc, W.kp, raises_of W.ec.hs W.ty, W.plain, W.ec, W.fld, fun cc yi D nm' h1 h2 => ?_, kit_ve W.ve, fun f' hf => ?_⟩
      · obtain ⟨D', nm2, W2⟩ := Wd'.exc cc yi h1
        have e := W2.at_
        have h2 : ct cc = some (D, nm') := h2
        rw [h2] at e
        cases e
        have hs := W.sb cc yi D nm' h1 h2
        have tt : Cl = D → xi.up.contains cc = true := fun e => by
          have z := W.sb c xi Cl nm hx W.at_
          have z2 := W2.sb cc yi D nm' h1 h2
          have hup : ∀ (c : Nat) (xi : XInfo) (C : Addr) (nm : Str), XW K mg I ct c xi C nm → PySem.W.subIn K (.ref C) (.ref C) = some true := fun c xi C nm W => W.selfm
          rw [← e] at hs
          exact Option.some.inj (hs.symm.trans (hup c xi Cl nm W))
        exact ⟨PySem.W.exm_ref W2.ec.hs W2.ec.hd W2.ty hs, kit_ref W2.ec.hd W2.ty hs tt⟩
      · obtain ⟨OX, fI, C0, x, m, st, qual, oc', od', dV', kV', doc', pm', an', cdv', cty', osl', i1, i2, i3, i4, i5, i6, i7, i8, i9, i10⟩ := W.ini f' hf
        exact ⟨OX, fI, _, i1, i2, ini_ok OX (W.fld f' hf).2 i3 i4 i5 i6 i7 i8 i9, i10⟩
    have hS := sndSs d.body C CS T.wf
    rw [← T.eq] at hS
    refine ⟨_, hS, ?_⟩
    refine ⟨B, H, B, es.map Sl.dat ++ List.replicate (d.N.length - es.length) Sl.no, ⟨Ext.refl sb, start_rel sb r rfl, fun j ds' a h1 _ => ?_⟩, ?_⟩
    · obtain ⟨a, xs, _, _, _, _⟩ := (start_rel (sx := (none : Option (Addr × Nat × Option Addr × Str))) (K := K) (n := d.N.length) sb r rfl).own j ds' h1
      by_cases hj : j < es.length
      · rw [List.getElem?_append_left (by simpa using hj), List.getElem?_map] at h1
        cases e1 : es[j]? with
        | none => rw [e1] at h1; cases h1
        | some d => rw [e1] at h1; cases h1
      · rw [List.getElem?_append_right (by simpa using hj), List.getElem?_replicate] at h1
        split at h1 <;> cases h1
    · unfold runB at h
      cases eo : exb I (callF I ds k) d.body (es.map Sl.dat ++ List.replicate (d.N.length - es.length) Sl.no) with
      | nx ρ => rw [eo] at h; exact fun B' H' σ s' => h .non B' H' s'.ext .non
      | rt z => rw [eo] at h; exact fun B' H' v x hd => h v B' H' x hd
      | bk ρ => rw [eo] at h; exact h.elim
      | ct ρ => rw [eo] at h; exact h.elim
      | ex c f ρ => rw [eo] at h; exact fun cls dx B' H' σ s' hx => h cls dx B' H' s'.ext hx
      | stuck => rw [eo] at h; exact h.elim
end
end CH

/-! CH 19: the law's end. -/
namespace CH
open PySem PySem.Spec PyProof.Rows L2

/-- a promise that names no exception -/
def spTop (K : PySem.W.Frag) (g : List D → R D) : Sp := fun vs H Q E => vs.length = 1 ∧ ∃ B ds z, Same B H ∧ DpAll K B vs ds ∧ g ds = .ok z ∧ ∀ v B' H', Ext B H B' H' → Dp K B' v z → Q v H'
theorem spTop_spD {K : PySem.W.Frag} {ct : Nat → Option (Addr × Str)} {g : List D → R D} {vs : List V} {H : Hp} {Q : VK} {E : XK} (h : spTop K g vs H Q E) : spD K ct 1 g vs H Q E := by
  obtain ⟨h1, B, ds, z, h2, h3, h4, h5⟩ := h
  refine ⟨h1, B, ds, h2, h3, ?_⟩
  rw [h4]
  exact h5
theorem script_dp {K : PySem.W.Frag} {H : Hp} : ∀ ns : List Int, DpAll K H (ns.map V.int) (ns.map PyData.int)
  | [] => .nil
  | n :: r => .cons (.int n) (script_dp r)
theorem law_end {l : PySem.W.OpenLaw} {n kk li : Nat} {q : Program} {loose : List Str} {XP : (Str → Option Value) → Heap → Prop} {YP : World → Heap → Prop} {d : DefRec} {K : Params → PySem.W.Frag} {x : Str} {I : Info} {ds : List DefI} {dd : DefI}
    (hn : l.most = some n) (hn2 : n ≤ sizeLine) (hdf : d.params.defaults = []) (hr : Room (kk + 20) callerA)
    (hY : ∀ (w : World) (h : Heap), YP w h → (K w.params).In h) (hd : ds[li]? = some dd) (hp : dd.ps = [x]) (hnm : dd.nm = d.name)
    (F : ∀ (w : World) (mg : Str → Option Value) (h : Heap), (K w.params).In h → h.Ns mainGlobals mg → ∃ ct f fd, World' (K w.params) mg I ds ct ∧ DefW (K w.params) mg dd f fd ∧ ∀ (s : Shared) (u : Value), BindsTo s fd ⟨[u], []⟩ [(x, u)])
    (law : ∀ ns : List Int, ns.length ≤ n → (∀ z ∈ ns, Builtin.Int.intBits z ≤ 1048576) → callF I ds kk li [.list (ns.map PyData.int)] = .ok (.bool true)) :
    PySem.W.WalkO q loose XP YP l.row.toRowW d [] (fun f vs => PySem.call f vs) := by
  refine L2.walk_ofB (l := l) (n := n) (k := kk + 20) (x := x) (CX := fun w => L2.CX l.prog w) (sp := fun w => spTop (K w.params) (callF I ds kk li)) hn hn2 hdf hr hY (fun w mg fa h KX G hmg => ?_) (fun w H a ns hl hb _ hS => ⟨rfl, H, [.list (ns.map PyData.int)], .bool true, Same.refl _, .cons (.lst hS (script_dp ns)) .nil, law ns hl hb, fun v B' H' _ hd => by cases hd; rfl⟩)
    (fun w H s e s' h => by obtain ⟨_, _, _, _, _, _, _, _, _, _, _, _, z⟩ := h; exact z)
  obtain ⟨ct, f, fd, WD, DW, bt⟩ := F w mg h KX G
  have e : fa = f := by
    have := DW.mgf
    rw [hnm, hmg] at this
    cases this; rfl
  subst e
  refine ⟨fd, bt, fun base _ _ => ?_⟩
  have z := defs_ok (P := l.prog) (w := w) (base := base) WD kk li dd fa fd hd DW
  rw [hp] at z
  exact z.imp fun vs H Q E h => spTop_spD h

/-- every one of a list -/
def AllD (P : DefI → Prop) : List DefI → Prop
  | [] => True
  | d :: r => P d ∧ AllD P r
theorem AllD.at {P : DefI → Prop} : ∀ {ds : List DefI} {i : Nat} {d : DefI}, AllD P ds → ds[i]? = some d → P d
  | [], _, _, _, e => by simp at e
  | d :: r, 0, _, h, e => by cases e; exact h.1
  | d :: r, i + 1, _, h, e => AllD.at (ds := r) (i := i) h.2 (by simpa using e)
/-- the names of the built-ins that stand as they are -/
theorem blt_all {mg : Str → Option Value} (h1 : mg "len" = none) (h2 : mg "list" = none) (h3 : mg "tuple" = none) (h4 : mg "sorted" = none) (h5 : mg "str" = none) (h6 : mg "isinstance" = none) (h7 : mg "int" = none) (h8 : mg "bool" = none) (h9 : mg "set" = none) (h10 : mg "range" = none) (h11 : mg "enumerate" = none) (h12 : mg "zip" = none) (h13 : mg "reversed" = none) (h14 : mg "max" = none) : ∀ x ∈ bltNames, mg x = none := by
  intro x hx
  simp only [bltNames, List.mem_cons, List.not_mem_nil, or_false] at hx
  rcases hx with rfl | rfl | rfl | rfl | rfl | rfl | rfl | rfl | rfl | rfl | rfl | rfl | rfl | rfl <;> assumption
def cSc (l : List (Str × NameKind)) : Scope := { kind := .function, names := l, isGenerator := false, isCoroutine := false, more := [] }
end CH

/-! CH 20: how a body is read by simp. -/
namespace CH
open PySem PySem.Spec PyProof.Rows L2

section
variable {I : Info} {F : FT}
@[simp] theorem mk_v (m : M D) : (mkV m).v = m := rfl
@[simp] theorem mk_t (m : M D) (ρ : List Sl) : (mkV m).t ρ = (m ρ).bind fun d => R.of (dTru d) := rfl
@[simp] theorem b_ok {α β : Type} (a : α) (k : α → R β) : (R.ok a).bind k = k a := rfl
@[simp] theorem b_exc {α β : Type} (c : Nat) (f : Option D) (k : α → R β) : (R.exc c f : R α).bind k = .exc c f := rfl
@[simp] theorem b_st {α β : Type} (k : α → R β) : (R.stuck : R α).bind k = .stuck := rfl
@[simp] theorem b_if {α β : Type} (c : Prop) [Decidable c] (a b : R α) (k : α → R β) : (if c then a else b).bind k = if c then a.bind k else b.bind k := by split <;> rfl
@[simp] theorem of_some {α : Type} (a : α) : R.of (some a) = .ok a := rfl
@[simp] theorem of_none {α : Type} : R.of (none : Option α) = .stuck := rfl
@[simp] theorem of_if {α : Type} (c : Prop) [Decidable c] (a b : Option α) : R.of (if c then a else b) = if c then R.of a else R.of b := by split <;> rfl
@[simp] theorem nx_ok' {α : Type} (a : α) : (R.ok a).nx = .ok a := rfl
@[simp] theorem nx_if {α : Type} (c : Prop) [Decidable c] (a b : R α) : (if c then a else b).nx = if c then a.nx else b.nx := by split <;> rfl
@[simp] theorem on_ok {α : Type} (a : α) (ρ : List Sl) (k : α → O) : onR (.ok a) ρ k = k a := rfl
@[simp] theorem on_exc {α : Type} (c : Nat) (f : Option D) (ρ : List Sl) (k : α → O) : onR (.exc c f : R α) ρ k = .ex c f ρ := rfl
@[simp] theorem on_st {α : Type} (ρ : List Sl) (k : α → O) : onR (.stuck : R α) ρ k = .stuck := rfl
@[simp] theorem on_if {α : Type} (c : Prop) [Decidable c] (a b : R α) (ρ : List Sl) (k : α → O) : onR (if c then a else b) ρ k = if c then onR a ρ k else onR b ρ k := by split <;> rfl
@[simp] theorem sq_nx (ρ : List Sl) (k : List Sl → O) : (O.nx ρ).seq k = k ρ := rfl
@[simp] theorem sq_rt (d : D) (k : List Sl → O) : (O.rt d).seq k = .rt d := rfl
@[simp] theorem sq_bk (ρ : List Sl) (k : List Sl → O) : (O.bk ρ).seq k = .bk ρ := rfl
@[simp] theorem sq_ct (ρ : List Sl) (k : List Sl → O) : (O.ct ρ).seq k = .ct ρ := rfl
@[simp] theorem sq_ex (c : Nat) (f : Option D) (ρ : List Sl) (k : List Sl → O) : (O.ex c f ρ).seq k = .ex c f ρ := rfl
@[simp] theorem sq_st (k : List Sl → O) : O.stuck.seq k = .stuck := rfl
@[simp] theorem sq_if (c : Prop) [Decidable c] (a b : O) (k : List Sl → O) : (if c then a else b).seq k = if c then a.seq k else b.seq k := by split <;> rfl
@[simp] theorem ou_rt (d : D) : (O.rt d).out = .ok d := rfl
@[simp] theorem ou_nx (ρ : List Sl) : (O.nx ρ).out = .ok .none := rfl
@[simp] theorem ou_ex (c : Nat) (f : Option D) (ρ : List Sl) : (O.ex c f ρ).out = .exc c f := rfl
@[simp] theorem ou_if (c : Prop) [Decidable c] (a b : O) : (if c then a else b).out = if c then a.out else b.out := by split <;> rfl
@[simp] theorem ca_ex (c : Nat) (f : Option D) (ρ : List Sl) (k : Nat → Option D → List Sl → O) : (O.ex c f ρ).catch k = k c f ρ := rfl
@[simp] theorem ca_nx (ρ : List Sl) (k : Nat → Option D → List Sl → O) : (O.nx ρ).catch k = .nx ρ := rfl
@[simp] theorem ca_rt (d : D) (k : Nat → Option D → List Sl → O) : (O.rt d).catch k = .rt d := rfl
@[simp] theorem ca_bk (ρ : List Sl) (k : Nat → Option D → List Sl → O) : (O.bk ρ).catch k = .bk ρ := rfl
@[simp] theorem ca_ct (ρ : List Sl) (k : Nat → Option D → List Sl → O) : (O.ct ρ).catch k = .ct ρ := rfl
@[simp] theorem ca_if (c : Prop) [Decidable c] (a b : O) (k : Nat → Option D → List Sl → O) : (if c then a else b).catch k = if c then a.catch k else b.catch k := by split <;> rfl
@[simp] theorem hdl_nil (c : Nat) (f : Option D) (ρ : List Sl) : hdl I F [] c f ρ = .ex c f ρ := rfl
@[simp] theorem hdl_cons (h : Hd) (r : List Hd) (c : Nat) (f : Option D) (ρ : List Sl) : hdl I F (h :: r) c f ρ = (match I.exs[c]? with
    | none => .stuck
    | some xi => if xi.up.contains h.c = true then finS (h.n.map (·.1)) (xsu I F h.s (inS ρ (h.n.map (·.1)) c f)) else hdl I F r c f ρ) := rfl
@[simp] theorem fi_nx (n : Option Nat) (ρ : List Sl) : finS n (.nx ρ) = if (outS ρ n).all noX = true then .nx (outS ρ n) else .stuck := rfl
@[simp] theorem fi_rt (n : Option Nat) (d : D) : finS n (.rt d) = .rt d := rfl
@[simp] theorem fi_if (c : Prop) [Decidable c] (a b : O) (n : Option Nat) : finS n (if c then a else b) = if c then finS n a else finS n b := by split <;> rfl
@[simp] theorem in_some (ρ : List Sl) (i c : Nat) (f : Option D) : inS ρ (some i) c f = ρ.set i (.exc c f) := rfl
@[simp] theorem in_none (ρ : List Sl) (c : Nat) (f : Option D) : inS ρ none c f = ρ := rfl
@[simp] theorem out_some (ρ : List Sl) (i : Nat) : outS ρ (some i) = ρ.set i .no := rfl
@[simp] theorem out_none (ρ : List Sl) : outS ρ none = ρ := rfl
@[simp] theorem nX1 : noX .no = true := rfl
@[simp] theorem nX2 (d : D) : noX (.dat d) = true := rfl
@[simp] theorem nX3 (d : List D) : noX (.own d) = true := rfl
@[simp] theorem nX4 (c : Nat) (f : Option D) : noX (.exc c f) = false := rfl
@[simp] theorem tru_b (b : Bool) : dTru (.bool b) = some b := rfl
@[simp] theorem setS_eq (ρ : List Sl) (i : Nat) (d : D) : setS ρ i d = ρ.set i (.dat d) := rfl
@[simp] theorem wi_nil (ρ : List Sl) : wipeS ρ [] = ρ := rfl
@[simp] theorem wi_cons (ρ : List Sl) (v : Nat) (vs : List Nat) : wipeS ρ (v :: vs) = (wipeS ρ vs).set v .no := rfl
@[simp] theorem tg_one (i : Nat) (x : Str) (p : Pos) (d : D) (ρ : List Sl) : (Tg.one i x p).set d ρ = some (ρ.set i (.dat d)) := rfl
@[simp] theorem tg_three (i j l k : Nat) (x y z : Str) (p q s r : Pos) (a b c : D) (ρ : List Sl) : (Tg.three i x p j y q l z s k r).set (.tuple [a, b, c]) ρ = some (((ρ.set i (.dat a)).set j (.dat b)).set l (.dat c)) := rfl
@[simp] theorem tg_two (i j k : Nat) (x y : Str) (p q r : Pos) (a b : D) (ρ : List Sl) : (Tg.two i x p j y q k r).set (.tuple [a, b]) ρ = some ((ρ.set i (.dat a)).set j (.dat b)) := rfl
@[simp] theorem if_bool {α : Type} (b : Bool) (x y : α) : (if (decide (b = true)) = true then x else y) = if b = true then x else y := by cases b <;> rfl
end
/-! operations on data -/
section
variable (i j : Int) (a b : Str) (d e : D) (xs ys : List D)
@[simp] theorem o_add : dBin .Add = dAdd := rfl
@[simp] theorem o_sub : dBin .Sub = dSub := rfl
@[simp] theorem o_mul : dBin .Mult = dMul := rfl
@[simp] theorem o_div : dBin .FloorDiv = dDiv := rfl
@[simp] theorem o_mod : dBin .Mod = dMod := rfl
@[simp] theorem o_pow : dBin .Pow = dPow := rfl
@[simp] theorem o_addI : dAdd (.int i) (.int j) = some (.int (i + j)) := rfl
@[simp] theorem o_addS : dAdd (.str a) (.str b) = if a.length + b.length ≤ lim then some (.str (a ++ b)) else none := rfl
@[simp] theorem o_addT : dAdd (.tuple xs) (.tuple ys) = if xs.length + ys.length ≤ lim then some (.tuple (xs ++ ys)) else none := rfl
@[simp] theorem o_addL : dAdd (.list xs) (.list ys) = if xs.length + ys.length ≤ lim then some (.list (xs ++ ys)) else none := rfl
@[simp] theorem o_subI : dSub (.int i) (.int j) = some (.int (i - j)) := rfl
@[simp] theorem o_neg : dNeg (.int i) = some (.int (-i)) := rfl
theorem o_mulI (h1 : -1000000000000 < j) (h2 : j < 1000000000000) : dMul (.int i) (.int j) = some (.int (i * j)) := by
  show (if smI 1000000000000 j = true then _ else _) = _
  rw [if_pos (smI_iff.mpr ⟨by omega, by omega⟩)]
theorem o_divI (h1 : 0 < j) (h2 : j < 1073741824) : dDiv (.int i) (.int j) = some (.int (i / j)) := by
  show (if 0 < j ∧ j < 1073741824 then _ else _) = _
  rw [if_pos ⟨h1, h2⟩]
theorem o_modI (h1 : 0 < j) : dMod (.int i) (.int j) = some (.int (i % j)) := by
  show (if 0 < j then _ else _) = _
  rw [if_pos h1]
@[simp] theorem o_cEq : dCmp .Eq = dEq := rfl
@[simp] theorem o_cNe : dCmp .NotEq = dNe := rfl
@[simp] theorem o_cLt : dCmp .Lt = dLt := rfl
@[simp] theorem o_cLe : dCmp .LtE = dLe := rfl
@[simp] theorem o_cGt : dCmp .Gt = dGt := rfl
@[simp] theorem o_cGe : dCmp .GtE = dGe := rfl
@[simp] theorem o_cIn : dCmp .In = dIn := rfl
@[simp] theorem o_cNi : dCmp .NotIn = dNotIn := rfl
@[simp] theorem o_cIs : dCmp .Is = dIs := rfl
@[simp] theorem o_cIn' : dCmp .IsNot = dIsNot := rfl
@[simp] theorem o_lt : dLt (.int i) (.int j) = some (.bool (decide (i < j))) := rfl
@[simp] theorem o_le : dLe (.int i) (.int j) = some (.bool (decide (i ≤ j))) := rfl
@[simp] theorem o_gt : dGt (.int i) (.int j) = some (.bool (decide (j < i))) := rfl
@[simp] theorem o_ge : dGe (.int i) (.int j) = some (.bool (decide (j ≤ i))) := rfl
theorem dEq_of (h : min d.depth e.depth ≤ 400) : dEq d e = some (.bool (PyData.eqv d e)) := by unfold dEq; rw [if_pos h]
theorem dNe_of (h : min d.depth e.depth ≤ 400) : dNe d e = some (.bool (!PyData.eqv d e)) := by unfold dNe; rw [if_pos h]
theorem eqv_str : PyData.eqv (.str a) (.str b) = decide (a = b) := by
  by_cases h : a = b
  · subst h; simp [PyData.eqv]
  · simp [PyData.eqv, h]
theorem eqv_int : PyData.eqv (.int i) (.int j) = decide (i = j) := by
  by_cases h : i = j
  · subst h; simp [PyData.eqv]
  · simp [PyData.eqv, h]
@[simp] theorem o_eqS : dEq (.str a) (.str b) = some (.bool (decide (a = b))) := by rw [dEq_of _ _ (by simp [PyData.depth]), eqv_str]
@[simp] theorem o_neS : dNe (.str a) (.str b) = some (.bool (!decide (a = b))) := by rw [dNe_of _ _ (by simp [PyData.depth]), eqv_str]
@[simp] theorem o_eqI : dEq (.int i) (.int j) = some (.bool (decide (i = j))) := by rw [dEq_of _ _ (by simp [PyData.depth]), eqv_int]
@[simp] theorem o_neI : dNe (.int i) (.int j) = some (.bool (!decide (i = j))) := by rw [dNe_of _ _ (by simp [PyData.depth]), eqv_int]
@[simp] theorem o_eqTS : dEq (.tuple xs) (.str b) = some (.bool false) := by rw [dEq_of _ _ (by simp [PyData.depth])]; simp [PyData.eqv]
@[simp] theorem o_eqST : dEq (.str b) (.tuple xs) = some (.bool false) := by rw [dEq_of _ _ (by simp [PyData.depth])]; simp [PyData.eqv]
@[simp] theorem o_isN : dIs d .none = some (.bool (isN d)) := by cases d <;> rfl
@[simp] theorem o_isB (x y : Bool) : dIs (.bool x) (.bool y) = some (.bool (decide (x = y))) := rfl
@[simp] theorem o_isnN : dIsNot d .none = some (.bool (!isN d)) := by cases d <;> rfl
@[simp] theorem o_tN : dTru .none = some false := rfl
@[simp] theorem o_tI : dTru (.int i) = some (i != 0) := rfl
@[simp] theorem o_tL : dTru (.list xs) = some (!xs.isEmpty) := rfl
@[simp] theorem o_tT : dTru (.tuple xs) = some (!xs.isEmpty) := rfl
@[simp] theorem o_ixL : dIx (.list xs) (.int i) = L2.atI xs i := rfl
@[simp] theorem o_ixT : dIx (.tuple xs) (.int i) = L2.atI xs i := rfl
@[simp] theorem o_lenL : biS .len (.list xs) = some (.int xs.length) := rfl
@[simp] theorem o_lenT : biS .len (.tuple xs) = some (.int xs.length) := rfl
@[simp] theorem o_lenS : biS .len (.str a) = if a.length ≤ lim then some (.int a.length) else none := rfl
@[simp] theorem o_lstL : biS .list (.list xs) = some (.list xs) := rfl
@[simp] theorem o_tup : biS .tuple (.list xs) = some (.tuple xs) := rfl
@[simp] theorem o_itL : itemsS (.list xs) = some xs := rfl
@[simp] theorem o_itT : itemsS (.tuple xs) = some xs := rfl
@[simp] theorem o_rvL : revS (.list xs) = some xs.reverse := rfl
@[simp] theorem o_rvT : revS (.tuple xs) = some xs.reverse := rfl
@[simp] theorem o_en : enumS (.list xs) = some (enumFrom 0 xs) := rfl
@[simp] theorem o_zp : zipS (.list xs) (.list ys) = some (zipD xs ys) := rfl
@[simp] theorem o_dI : dInt (.int i) = some i := rfl
@[simp] theorem o_dB (x : Bool) : dBool (.bool x) = some x := rfl
@[simp] theorem o_slL (l h : Option Int) : dSl (.list xs) l h = some (.list (cutD xs l h)) := rfl
@[simp] theorem o_slT (l h : Option Int) : dSl (.tuple xs) l h = some (.tuple (cutD xs l h)) := rfl
@[simp] theorem o_c1 : cstD .none = some .none := rfl
@[simp] theorem o_c2 (x : Bool) : cstD (.bool x) = some (.bool x) := rfl
@[simp] theorem o_c3 : cstD (.int i) = some (.int i) := rfl
@[simp] theorem o_c4 : cstD (.str a) = some (.str a) := rfl
@[simp] theorem o_ySS : tyS .str (.str a) = true := rfl
@[simp] theorem o_ySI : tyS .str (.int i) = false := rfl
@[simp] theorem o_yST : tyS .str (.tuple xs) = false := rfl
@[simp] theorem o_ySL : tyS .str (.list xs) = false := rfl
@[simp] theorem o_ySN : tyS .str .none = false := rfl
@[simp] theorem o_yTS : tyS .tuple (.str a) = false := rfl
@[simp] theorem o_yTI : tyS .tuple (.int i) = false := rfl
@[simp] theorem o_yTT : tyS .tuple (.tuple xs) = true := rfl
@[simp] theorem o_yTL : tyS .tuple (.list xs) = false := rfl
@[simp] theorem o_yTN : tyS .tuple .none = false := rfl
/-- indices -/
@[simp] theorem at0 {x : D} : L2.atI (x :: xs) 0 = some x := atI_nat (j := 0) rfl
@[simp] theorem at1 {x y : D} : L2.atI (x :: y :: xs) 1 = some y := atI_nat (j := 1) rfl
@[simp] theorem at2 {x y z : D} : L2.atI (x :: y :: z :: xs) 2 = some z := atI_nat (j := 2) rfl
theorem at_nat {n : Nat} {x : D} (h : xs[n]? = some x) : L2.atI xs (n : Int) = some x := atI_nat h
end
end CH
namespace CH
open PySem
@[simp] theorem fill_nil (x kw : Str) (n m : Nat) : FInfo.fill ⟨x, n, [], kw⟩ m = [] := by simp [FInfo.fill]
end CH

/-! CH 21: loops by their invariants; numbers, names, terms as data. -/
namespace CH
open PySem PySem.Spec PyProof.Rows L2

/-- what is wanted of a body's end -/
structure Po where
  nx : List Sl → Prop
  rt : D → Prop
  bk : List Sl → Prop
  ct : List Sl → Prop
  ex : Nat → Option D → List Sl → Prop
def wp (P : Po) : O → Prop
  | .nx ρ => P.nx ρ
  | .rt d => P.rt d
  | .bk ρ => P.bk ρ
  | .ct ρ => P.ct ρ
  | .ex c f ρ => P.ex c f ρ
  | .stuck => False
section
variable {P : Po}
@[simp] theorem wp_nx (ρ : List Sl) : wp P (.nx ρ) = P.nx ρ := rfl
@[simp] theorem wp_rt (d : D) : wp P (.rt d) = P.rt d := rfl
@[simp] theorem wp_bk (ρ : List Sl) : wp P (.bk ρ) = P.bk ρ := rfl
@[simp] theorem wp_ct (ρ : List Sl) : wp P (.ct ρ) = P.ct ρ := rfl
@[simp] theorem wp_ex (c : Nat) (f : Option D) (ρ : List Sl) : wp P (.ex c f ρ) = P.ex c f ρ := rfl
@[simp] theorem wp_if (c : Prop) [Decidable c] (a b : O) : wp P (if c then a else b) = if c then wp P a else wp P b := by split <;> rfl
@[simp] theorem wp_seq (o : O) (k : List Sl → O) : wp P (o.seq k) = wp { P with nx := fun ρ => wp P (k ρ) } o := by cases o <;> rfl
theorem wp_for {bd : D → List Sl → Option (List Sl)} {body : List Sl → O} {ds : List D} {ρ : List Sl} (Inv : Nat → List Sl → Prop) (h0 : Inv 0 ρ)
    (hs : ∀ (i : Nat) (d : D) (ρ : List Sl), ds[i]? = some d → Inv i ρ → ∃ ρ', bd d ρ = some ρ' ∧ wp { P with nx := Inv (i + 1), ct := Inv (i + 1), bk := P.nx } (body ρ'))
    (he : ∀ ρ, Inv ds.length ρ → P.nx ρ) : wp P (forS bd body ds ρ) := by
  have key : ∀ (es : List D) (n : Nat) (ρ : List Sl), n + es.length = ds.length → (∀ i, es[i]? = ds[n + i]?) → Inv n ρ → wp P (forS bd body es ρ) := by
    intro es
    induction es with
    | nil => intro n ρ h _ hi; exact he ρ (by rw [← h]; exact hi)
    | cons d es ih =>
      intro n ρ h hg hi
      obtain ⟨ρ', e, hb⟩ := hs n d ρ (by have := hg 0; simpa using this.symm) hi
      rw [forS, e]
      dsimp only
      have hg' : ∀ i, es[i]? = ds[n + 1 + i]? := fun i => by
        have := hg (i + 1)
        rw [show n + (i + 1) = n + 1 + i by omega] at this
        simpa using this
      cases eo : body ρ' with
      | nx ρ2 => rw [eo] at hb; exact ih (n + 1) ρ2 (by rw [← h, List.length_cons]; omega) hg' hb
      | ct ρ2 => rw [eo] at hb; exact ih (n + 1) ρ2 (by rw [← h, List.length_cons]; omega) hg' hb
      | bk ρ2 => rw [eo] at hb; exact hb
      | rt d => rw [eo] at hb; exact hb
      | ex c f ρ2 => rw [eo] at hb; exact hb
      | stuck => rw [eo] at hb; exact hb
  exact key ds 0 ρ (by omega) (fun i => by rw [Nat.zero_add]) h0
theorem wp_while {test : M Bool} {body : List Sl → O} {n : Nat} {ρ : List Sl} (Inv : Nat → List Sl → Prop) (m : Nat) (hm : m < n) (h0 : Inv m ρ)
    (hs : ∀ (m : Nat) (ρ : List Sl), Inv m ρ → (test ρ = .ok false ∧ P.nx ρ) ∨ (test ρ = .ok true ∧ wp { P with nx := fun ρ => ∃ m', m' < m ∧ Inv m' ρ, ct := fun ρ => ∃ m', m' < m ∧ Inv m' ρ, bk := P.nx } (body ρ))) :
    wp P (whileS test body n ρ) := by
  induction n generalizing m ρ with
  | zero => omega
  | succ n ih =>
    rw [whileS]
    rcases hs m ρ h0 with ⟨e, q⟩ | ⟨e, q⟩
    · rw [e, on_ok, if_neg Bool.false_ne_true]
      exact q
    · rw [e, on_ok, if_pos rfl]
      cases eo : body ρ with
      | nx ρ2 => rw [eo] at q; obtain ⟨m', h1, h2⟩ := q; exact ih m' (by omega) h2
      | ct ρ2 => rw [eo] at q; obtain ⟨m', h1, h2⟩ := q; exact ih m' (by omega) h2
      | bk ρ2 => rw [eo] at q; exact q
      | rt d => rw [eo] at q; exact q
      | ex c f ρ2 => rw [eo] at q; exact q
      | stuck => rw [eo] at q; exact q
end
/-- a call gives such a datum -/
def Gv (Q : D → Prop) (r : R D) : Prop := ∃ d, r = .ok d ∧ Q d
theorem gv_out {Q : D → Prop} {o : O} (h : wp ⟨fun _ => Q .none, Q, fun _ => False, fun _ => False, fun _ _ _ => False⟩ o) : Gv Q o.out := by
  cases o with
  | nx ρ => exact ⟨_, rfl, h⟩
  | rt d => exact ⟨_, rfl, h⟩
  | _ => exact h.elim
theorem gv_eq {d : D} {r : R D} (h : Gv (fun x => x = d) r) : r = .ok d := by
  obtain ⟨x, e, rfl⟩ := h
  exact e
theorem rng_at {lo hi : Int} {i : Nat} {d : D} (h : (rngD lo hi)[i]? = some d) : i < (hi - lo).toNat ∧ d = .int (lo + i) := rng_get h
@[simp] theorem rng_len (lo hi : Int) : (rngD lo hi).length = (hi - lo).toNat := by simp [rngD]
theorem o_rg1 (j : Int) (h : rsm j = true) : rngS [.int j] = some (rngD 0 j) := by
  show (if rsm j = true then _ else _) = _
  rw [if_pos h]
theorem o_rg2 (i j : Int) (h : rsm i = true) (h' : rsm j = true) : rngS [.int i, .int j] = some (rngD i j) := by
  show (if (rsm i && rsm j) = true then _ else _) = _
  rw [if_pos (by rw [h, h']; rfl)]
theorem rsm_nat {n : Nat} (h : n ≤ 1000000) : rsm (n : Int) = true := by
  exact smI_iff.mpr ⟨by omega, by omega⟩
/-- numbers as data -/
def nD (r : List Nat) : List D := r.map fun (x : Nat) => .int (x : Int)
@[simp] theorem nD_len (r : List Nat) : (nD r).length = r.length := by simp [nD]
theorem nD_app (r s : List Nat) : nD (r ++ s) = nD r ++ nD s := by simp [nD]
theorem nD_get {r : List Nat} {i x : Nat} (h : r[i]? = some x) : (nD r)[i]? = some (.int (x : Int)) := by simp [nD, h]
end CH
namespace CH
open PySem PySem.Spec PyProof.Rows L2
theorem compL_fm {bd : D → Option (List Sl)} {test : M Bool} {elt : M D} (p : D → Bool) (g : D → D) : ∀ {ds : List D}, (∀ d ∈ ds, ∃ ρ, bd d = some ρ ∧ test ρ = .ok (p d) ∧ (p d = true → elt ρ = .ok (g d))) → compL bd test elt ds = .ok ((ds.filter p).map g)
  | [], _ => rfl
  | d :: ds, h => by
    obtain ⟨ρ, e1, e2, e3⟩ := h d (List.mem_cons_self ..)
    have ih := compL_fm p g (ds := ds) fun d hd => h d (List.mem_cons_of_mem _ hd)
    rw [compL, e1, of_some, b_ok, e2, b_ok, ih]
    cases hp : p d with
    | true => rw [if_pos rfl, e3 hp, List.filter_cons_of_pos hp]; rfl
    | false => rw [if_neg Bool.false_ne_true, List.filter_cons_of_neg (by rw [hp]; exact Bool.false_ne_true)]
/-- without a test -/
theorem compL_m {bd : D → Option (List Sl)} {test : M Bool} {elt : M D} (g : D → D) {ds : List D} (h : ∀ d ∈ ds, ∃ ρ, bd d = some ρ ∧ test ρ = .ok true ∧ elt ρ = .ok (g d)) : compL bd test elt ds = .ok (ds.map g) := by
  rw [compL_fm (fun _ => true) g fun d hd => ?_, List.filter_eq_self.mpr fun _ _ => rfl]
  obtain ⟨ρ, e1, e2, e3⟩ := h d hd
  exact ⟨ρ, e1, e2, fun _ => e3⟩
/-! ### names -/
def smallS : Str := "abcdefghijklmnopqrstuvwxyz"
def isName (s : Str) : Bool := decide (1 ≤ s.length) && decide (s.length ≤ 3) && s.cps.toList.all fun c => decide (c ∈ smallS.cps.toList)
def isLeaf (s : Str) : Bool := decide (s = "K") || decide (s = "S") || isName s
def chD (c : Nat) : D := .str ⟨#[c]⟩
theorem it_str (s : Str) (h : s.length ≤ lim) : itemsS (.str s) = some (s.cps.toList.map chD) := by
  show (if s.length ≤ lim then _ else _) = _
  rw [if_pos h]; rfl
@[simp] theorem notin_ch (c : Nat) (z : Str) : dNotIn (chD c) (.str z) = some (.bool (!decide (c ∈ z.cps.toList))) := rfl
@[simp] theorem in_ch (c : Nat) (z : Str) : dIn (chD c) (.str z) = some (.bool (decide (c ∈ z.cps.toList))) := rfl
theorem slen (s : Str) : s.length = s.cps.toList.length := by simp [Str.length]
end CH
namespace CH
open PySem PySem.Spec PyProof.Rows L2
theorem compL_map {α : Type} {bd : D → Option (List Sl)} {test : M Bool} {elt : M D} (f : α → D) (p : α → Bool) (g : α → D) : ∀ {l : List α}, (∀ c ∈ l, ∃ ρ, bd (f c) = some ρ ∧ test ρ = .ok (p c) ∧ (p c = true → elt ρ = .ok (g c))) → compL bd test elt (l.map f) = .ok ((l.filter p).map g)
  | [], _ => rfl
  | d :: ds, h => by
    obtain ⟨ρ, e1, e2, e3⟩ := h d (List.mem_cons_self ..)
    have ih := compL_map f p g (l := ds) fun d hd => h d (List.mem_cons_of_mem _ hd)
    rw [List.map_cons, compL, e1, of_some, b_ok, e2, b_ok, ih]
    cases hp : p d with
    | true => rw [if_pos rfl, e3 hp, List.filter_cons_of_pos hp]; rfl
    | false => rw [if_neg Bool.false_ne_true, List.filter_cons_of_neg (by rw [hp]; exact Bool.false_ne_true)]
theorem small_ex {x : Int} (h1 : 0 ≤ x) : ∃ n : Nat, x = (n : Int) := ⟨x.toNat, by omega⟩
end CH
namespace CH
open PySem PySem.Spec PyProof.Rows L2
theorem drop_at {α : Type} {l : List α} {n : Nat} {x : α} (h : l[n]? = some x) : l.drop n = x :: l.drop (n + 1) := by
  have hl := (List.getElem?_eq_some_iff.mp h).1
  rw [List.drop_eq_getElem_cons hl]
  rw [List.getElem?_eq_getElem hl] at h
  exact congrArg (· :: l.drop (n + 1)) (Option.some.inj h)
theorem map_at {α β : Type} {l : List α} {f : α → β} {n : Nat} {d : β} (h : (l.map f)[n]? = some d) : ∃ x, l[n]? = some x ∧ d = f x := by
  rw [List.getElem?_map] at h
  cases q : l[n]? with
  | none => rw [q] at h; cases h
  | some x => rw [q] at h; cases h; exact ⟨x, rfl, rfl⟩
theorem nD_at {w : List Nat} {n : Nat} {d : D} (h : (nD w)[n]? = some d) : ∃ x : Nat, w[n]? = some x ∧ d = .int (x : Int) := map_at h
theorem map_len_lim {α β : Type} {l : List α} {f : α → β} (h : l.length ≤ lim) : (l.map f).length ≤ lim := by rw [List.length_map]; exact h
end CH
namespace CH
open PySem PySem.Spec PyProof.Rows L2
/-- loops, the invariant hidden from simp -/
theorem wp_forH {P : Po} {bd : D → List Sl → Option (List Sl)} {body : List Sl → O} {ds : List D} {ρ : List Sl} (Inv : Nat → List Sl → Prop) (h0 : Inv 0 ρ)
    (hs : ∀ J : Nat → List Sl → Prop, (∀ i ρ, Inv i ρ → J i ρ) → ∀ (i : Nat) (d : D) (ρ : List Sl), ds[i]? = some d → Inv i ρ → ∃ ρ', bd d ρ = some ρ' ∧ wp { P with nx := J (i + 1), ct := J (i + 1), bk := P.nx } (body ρ'))
    (he : ∀ ρ, Inv ds.length ρ → P.nx ρ) : wp P (forS bd body ds ρ) :=
  wp_for Inv h0 (hs Inv fun _ _ h => h) he
theorem wp_whileH {P : Po} {test : M Bool} {body : List Sl → O} {n : Nat} {ρ : List Sl} (Inv : Nat → List Sl → Prop) (m : Nat) (hm : m < n) (h0 : Inv m ρ)
    (hs : ∀ (m : Nat) (J : List Sl → Prop), (∀ m' ρ, m' < m → Inv m' ρ → J ρ) → ∀ (ρ : List Sl), Inv m ρ → (test ρ = .ok false ∧ P.nx ρ) ∨ (test ρ = .ok true ∧ wp { P with nx := J, ct := J, bk := P.nx } (body ρ))) :
    wp P (whileS test body n ρ) :=
  wp_while Inv m hm h0 fun m ρ hi => hs m (fun ρ => ∃ m', m' < m ∧ Inv m' ρ) (fun m' ρ h1 h2 => ⟨m', h1, h2⟩) ρ hi
end CH

/-! CH 22: terms, in plain Lean. -/
namespace CH
open PySem PySem.Spec PyProof.Rows L2

inductive Tm where
  | lf (s : Str)
  | ap (a b : Tm)
  deriving DecidableEq
namespace Tm
def d : Tm → D
  | lf s => .str s
  | ap a b => .tuple [a.d, b.d]
/-- leaves -/
def lv : Tm → Nat
  | lf _ => 1
  | ap a b => a.lv + b.lv
/-- depth -/
def dp : Tm → Nat
  | lf _ => 0
  | ap a b => max a.dp b.dp + 1
def ok : Tm → Bool
  | lf s => isLeaf s
  | ap a b => a.ok && b.ok
theorem lv_pos : ∀ t : Tm, 1 ≤ t.lv
  | lf _ => Nat.le_refl _
  | ap a b => by have := lv_pos a; show 1 ≤ a.lv + b.lv; omega
theorem dp_lv : ∀ t : Tm, t.dp < t.lv
  | lf _ => Nat.lt_succ_self _
  | ap a b => by
    have := dp_lv a
    have := dp_lv b
    show max a.dp b.dp + 1 < a.lv + b.lv
    omega
theorem d_depth : ∀ t : Tm, t.d.depth = t.dp
  | lf _ => rfl
  | ap a b => by
    have := d_depth a
    have := d_depth b
    simp [d, PyData.depth, PyData.depthAll, dp, *]
theorem eqv_d : ∀ t u : Tm, PyData.eqv t.d u.d = decide (t = u)
  | lf a, lf b => by
    rw [d, d, eqv_str]
    by_cases h : a = b
    · simp [h]
    · simp [h]
  | lf a, ap b c => by simp [d, PyData.eqv]
  | ap b c, lf a => by simp [d, PyData.eqv]
  | ap a b, ap c e => by
    have h1 := eqv_d a c
    have h2 := eqv_d b e
    simp only [d, PyData.eqv, PyData.eqvAll, h1, h2, Bool.and_true]
    by_cases e1 : a = c <;> by_cases e2 : b = e <;> simp [e1, e2]
/-- what can be done at the top: 1 keeps, 2 shares -/
def deed : Tm → Nat
  | ap (ap (lf k) _) _ => if k = "K" then 1 else 0
  | ap (ap (ap (lf s) _) _) _ => if s = "S" then 2 else 0
  | _ => 0
def done : Tm → Tm
  | ap (ap (lf _) x) _ => x
  | ap (ap (ap (lf _) a) b) c => ap (ap a c) (ap b c)
  | t => t
def ways : Tm → List (List Nat)
  | lf _ => []
  | ap a b => (if deed (ap a b) ≠ 0 then [[]] else []) ++ ((ways a).map (0 :: ·) ++ (ways b).map (1 :: ·))
def part : Tm → List Nat → Option Tm
  | t, [] => some t
  | ap a _, 0 :: w => a.part w
  | ap _ b, 1 :: w => b.part w
  | _, _ => none
def put : Tm → List Nat → Tm → Tm
  | _, [], o => o
  | ap a b, 0 :: w, o => ap (a.put w o) b
  | ap a b, _ :: w, o => ap a (b.put w o)
  | t, _, _ => t
/-- one step, at a way that leads to one -/
def step (t : Tm) (w : List Nat) : Tm := match t.part w with
  | some u => t.put w u.done
  | none => t
end Tm
/-- how many leaves are left of m behind l, or -1 -/
def leftN (l m : Nat) : Int := if l ≤ m then (m : Int) - l else -1
theorem leftN_le {l m : Nat} (h : l ≤ m) : leftN l m = (m : Int) - l := if_pos h
theorem leftN_gt {l m : Nat} (h : ¬ l ≤ m) : leftN l m = -1 := if_neg h
/-- a way -/
def wD (w : List Nat) : D := .tuple (nD w)
/-- several ways -/
def wsD (ws : List (List Nat)) : D := .list (ws.map wD)
end CH
namespace CH
open PySem PySem.Spec PyProof.Rows L2
@[simp] theorem nD_cons (x : Nat) (w : List Nat) : nD (x :: w) = .int (x : Int) :: nD w := rfl
@[simp] theorem nD_nil : nD [] = [] := rfl
theorem cut_tail (x : D) (xs : List D) : cutD (x :: xs) (some 1) none = xs := by
  unfold cutD
  rw [show HT.sIx (x :: xs).length 0 (some 1) = min 1 (x :: xs).length from HT.sIx_nat _ 0 1, HT.sIx_none]
  rw [show min 1 (x :: xs).length = 1 by rw [List.length_cons]; omega]
  show (List.take ((x :: xs).length - 1) xs) = xs
  rw [List.length_cons, Nat.add_sub_cancel]
  exact List.take_length
theorem eq_tnil (xs : List D) : dEq (.tuple xs) (.tuple []) = some (.bool xs.isEmpty) := by
  rw [dEq_of _ _ (by simp [PyData.depth, PyData.depthAll])]
  cases xs <;> simp [PyData.eqv, PyData.eqvAll]
theorem tru_S (s : Str) (h : s.length ≤ lim) : dTru (.str s) = some (s.length != 0) := by
  show (if s.length ≤ lim then _ else _) = _
  rw [if_pos h]
def deedS : Nat → Str
  | 0 => ""
  | 1 => "K"
  | _ => "S"
theorem tru_deed (n : Nat) : dTru (.str (deedS n)) = some (decide (n ≠ 0)) := by
  match n with
  | 0 => decide +kernel
  | 1 => decide +kernel
  | n + 2 => 
    show dTru (.str "S") = some (decide (n + 2 ≠ 0))
    rw [show decide (n + 2 ≠ 0) = true by simp]
    decide +kernel
end CH
namespace CH
open PySem PySem.Spec PyProof.Rows L2
namespace Tm
theorem part_nil (t : Tm) : t.part [] = some t := by cases t <;> simp [part]
theorem ways_part : ∀ (t : Tm) (w : List Nat), w ∈ t.ways → ∃ u, t.part w = some u ∧ u.deed ≠ 0
  | lf _, w, h => by cases h
  | ap a b, w, h => by
    simp only [ways, List.mem_append, List.mem_map] at h
    rcases h with h | ⟨v, hv, rfl⟩ | ⟨v, hv, rfl⟩
    · split at h
      · rename_i hd
        rw [List.mem_singleton.mp h]
        exact ⟨ap a b, part_nil _, hd⟩
      · cases h
    · exact ways_part a v hv
    · exact ways_part b v hv
theorem done_okk : ∀ t : Tm, t.ok = true → t.done.ok = true
  | lf _, h => h
  | ap (lf _) _, h => h
  | ap (ap (lf _) x) y, h => by simp [ok] at h ⊢; simp [done]; exact h.1.2
  | ap (ap (ap (lf _) a) b) c, h => by
    simp [ok] at h
    simp [done, ok, h]
  | ap (ap (ap (ap _ _) a) b) c, h => h
theorem part_okk : ∀ (t : Tm) (w : List Nat) (u : Tm), t.part w = some u → t.ok = true → u.ok = true
  | t, [], u, h, ho => by rw [part_nil] at h; cases h; exact ho
  | lf _, x :: w, u, h, ho => by simp [part] at h
  | ap a b, 0 :: w, u, h, ho => part_okk a w u h (by simp [ok] at ho; exact ho.1)
  | ap a b, 1 :: w, u, h, ho => part_okk b w u h (by simp [ok] at ho; exact ho.2)
  | ap a b, (x + 2) :: w, u, h, ho => by simp [part] at h
theorem put_okk : ∀ (w : List Nat) (t o : Tm), t.ok = true → o.ok = true → (t.put w o).ok = true
  | [], t, o, ht, ho => by cases t <;> simpa [put] using ho
  | x :: w, lf s, o, ht, ho => by simpa [put] using ht
  | 0 :: w, ap a b, o, ht, ho => by
    simp [ok] at ht
    simp [put, ok, put_okk w a o ht.1 ho, ht.2]
  | (x + 1) :: w, ap a b, o, ht, ho => by
    simp [ok] at ht
    simp [put, ok, put_okk w b o ht.2 ho, ht.1]
theorem step_okk (t : Tm) (w : List Nat) (h : t.ok = true) : (t.step w).ok = true := by
  unfold step
  cases e : t.part w with
  | none => exact h
  | some u => exact put_okk w t u.done h (done_okk u (part_okk t w u e h))
theorem done_dp : ∀ t : Tm, t.done.dp ≤ t.dp + 1
  | lf _ => Nat.le_succ _
  | ap (lf _) _ => Nat.le_succ _
  | ap (ap (lf _) x) y => by simp [done, dp]; omega
  | ap (ap (ap (lf _) a) b) c => by simp [done, dp]; omega
  | ap (ap (ap (ap _ _) a) b) c => Nat.le_succ _
theorem put_dp : ∀ (w : List Nat) (t u o : Tm), t.part w = some u → o.dp ≤ u.dp + 1 → (t.put w o).dp ≤ t.dp + 1
  | [], t, u, o, h, ho => by rw [part_nil] at h; cases h; cases t <;> simpa [put] using ho
  | x :: w, lf s, u, o, h, ho => by simp [part] at h
  | 0 :: w, ap a b, u, o, h, ho => by
    have := put_dp w a u o h ho
    simp [put, dp]; omega
  | 1 :: w, ap a b, u, o, h, ho => by
    have := put_dp w b u o h ho
    simp [put, dp]; omega
  | (x + 2) :: w, ap a b, u, o, h, ho => by simp [part] at h
theorem step_dp (t : Tm) (w : List Nat) : (t.step w).dp ≤ t.dp + 1 := by
  unfold step
  cases e : t.part w with
  | none => exact Nat.le_succ _
  | some u => exact put_dp w t u u.done e (done_dp u)
/-- the first steps -/
def play : Nat → Tm → Tm × List (List Nat)
  | 0, t => (t, [])
  | n + 1, t => match t.ways with
    | [] => (t, [])
    | w :: _ => if (t.step w).lv ≤ 200 then ((play n (t.step w)).1, w :: (play n (t.step w)).2) else (t, [])
/-- the greatest depth on the way -/
def hi : Nat → Tm → Nat
  | 0, t => t.dp
  | n + 1, t => max t.dp (match t.ways with
    | [] => 0
    | w :: _ => if (t.step w).lv ≤ 200 then hi n (t.step w) else (t.step w).dp)
theorem hi_dp (n : Nat) (t : Tm) : t.dp ≤ hi n t := by
  cases n with
  | zero => exact Nat.le_refl _
  | succ n => exact Nat.le_max_left _ _
theorem hi_le : ∀ (n : Nat) (t : Tm), hi n t ≤ t.dp + n
  | 0, t => Nat.le_refl _
  | n + 1, t => by
    unfold hi
    cases e : t.ways with
    | nil => simp; 
    | cons w r =>
      have h1 := step_dp t w
      have h2 := hi_le n (t.step w)
      simp only
      split <;> omega
end Tm
end CH
namespace CH
open PySem PySem.Spec PyProof.Rows L2
namespace Tm
/-- where a row leads, if each is a step and nothing grows too big -/
def walk : Tm → List (List Nat) → Option Tm
  | t, [] => some t
  | t, w :: r => match t.part w with
    | some u => if u.deed ≠ 0 ∧ (t.step w).lv ≤ 200 then walk (t.step w) r else none
    | none => none
def whi : Tm → List (List Nat) → Nat
  | t, [] => t.dp
  | t, w :: r => max (max t.dp w.length) (whi (t.step w) r)
theorem play_walk : ∀ (n : Nat) (t : Tm), t.walk (play n t).2 = some (play n t).1
  | 0, t => rfl
  | n + 1, t => by
    unfold play
    cases e : t.ways with
    | nil => rfl
    | cons w r =>
      obtain ⟨u, h1, h2⟩ := ways_part t w (by rw [e]; exact List.mem_cons_self ..)
      simp only
      split
      · rename_i h
        simp only [walk, h1]
        rw [if_pos ⟨h2, h⟩]
        exact play_walk n _
      · rfl
end Tm
theorem tru_list (ds : List D) : dTru (.list ds) = some (!ds.isEmpty) := rfl
end CH
namespace CH
namespace Tm
theorem play_lv : ∀ (n : Nat) (t : Tm), t.lv ≤ 200 → (play n t).1.lv ≤ 200
  | 0, t, h => h
  | n + 1, t, h => by
    unfold play
    cases e : t.ways with
    | nil => exact h
    | cons w r =>
      simp only
      split
      · rename_i h2
        exact play_lv n _ h2
      · exact h
end Tm
end CH
namespace CH
open PySem
@[simp] theorem fill_full (x kw : Str) (n : Nat) (l : List D) : FInfo.fill ⟨x, n, l, kw⟩ n = [] := by simp [FInfo.fill]
@[simp] theorem fill_21 (x kw : Str) (d : D) : FInfo.fill ⟨x, 2, [d], kw⟩ 1 = [d] := rfl
@[simp] theorem fill_32 (x kw : Str) (d : D) : FInfo.fill ⟨x, 3, [d], kw⟩ 2 = [d] := rfl
@[simp] theorem fill_43 (x kw : Str) (d : D) : FInfo.fill ⟨x, 4, [d], kw⟩ 3 = [d] := rfl
end CH

/-! T 1: several steps at once, in plain Lean. -/
namespace CH
open PySem
abbrev Wy := List Nat
namespace Tm
/-- the way leads to a step -/
def red (t : Tm) (w : Wy) : Prop := ∃ u, t.part w = some u ∧ u.deed ≠ 0
theorem red_nil {t : Tm} : t.red [] ↔ t.deed ≠ 0 := by simp [red, part_nil]
theorem red_0 {a b : Tm} {w : Wy} : (ap a b).red (0 :: w) ↔ a.red w := by simp [red, part]
theorem red_1 {a b : Tm} {w : Wy} : (ap a b).red (1 :: w) ↔ b.red w := by simp [red, part]
theorem red_2 {a b : Tm} {n : Nat} {w : Wy} : ¬ (ap a b).red ((n + 2) :: w) := by simp [red, part]
theorem red_lf {s : Str} {w : Wy} : ¬ (lf s).red w := by
  cases w with
  | nil => simp [red, part, deed]
  | cons => simp [red, part]
theorem red_cons {a b : Tm} {n : Nat} {w : Wy} (h : (ap a b).red (n :: w)) : (n = 0 ∧ a.red w) ∨ (n = 1 ∧ b.red w) := by
  match n, h with
  | 0, h => exact .inl ⟨rfl, red_0.mp h⟩
  | 1, h => exact .inr ⟨rfl, red_1.mp h⟩
  | n + 2, h => exact absurd h red_2
theorem mem_ways : ∀ (t : Tm) (w : Wy), w ∈ t.ways ↔ t.red w
  | lf s, w => ⟨fun h => (by cases h), fun h => absurd h red_lf⟩
  | ap a b, [] => by
    rw [red_nil, ways, List.mem_append]
    constructor
    · rintro (h | h)
      · split at h
        · assumption
        · cases h
      · simp at h
    · intro h
      exact .inl (by rw [if_pos h]; exact List.mem_singleton.mpr rfl)
  | ap a b, n :: w => by
    have ha := mem_ways a w
    have hb := mem_ways b w
    constructor
    · intro h
      obtain ⟨u, h1, h2⟩ := ways_part _ _ h
      exact ⟨u, h1, h2⟩
    · intro h
      rw [ways, List.mem_append, List.mem_append]
      rcases red_cons h with ⟨rfl, h⟩ | ⟨rfl, h⟩
      · exact .inr (.inl (List.mem_map.mpr ⟨w, ha.mpr h, rfl⟩))
      · exact .inr (.inr (List.mem_map.mpr ⟨w, hb.mpr h, rfl⟩))
/-- only steps -/
def val (t : Tm) (P : Wy → Bool) : Prop := ∀ w, P w = true → t.red w
theorem val.l {a b : Tm} {P : Wy → Bool} (h : (ap a b).val P) : a.val fun w => P (0 :: w) := fun w e => red_0.mp (h _ e)
theorem val.r {a b : Tm} {P : Wy → Bool} (h : (ap a b).val P) : b.val fun w => P (1 :: w) := fun w e => red_1.mp (h _ e)
theorem val.no {a b : Tm} {P : Wy → Bool} (h : (ap a b).val P) (d : (ap a b).deed = 0) : P [] = false := by
  cases e : P [] with
  | false => rfl
  | true => exact absurd d (red_nil.mp (h _ e))
theorem val.or {t : Tm} {P Q : Wy → Bool} (h : t.val P) (k : t.val Q) : t.val fun w => P w || Q w := fun w e => by
  rcases Bool.or_eq_true_iff.mp e with e | e
  · exact h w e
  · exact k w e
theorem deed_cases {t : Tm} (h : t.deed ≠ 0) : (∃ x b, t = ap (ap (lf "K") x) b) ∨ ∃ x y b, t = ap (ap (ap (lf "S") x) y) b := by
  match t, h with
  | lf s, h => exact absurd rfl h
  | ap (lf s) y, h => exact absurd rfl h
  | ap (ap (lf q) x) y, h =>
    by_cases e : q = "K"
    · subst e; exact .inl ⟨_, _, rfl⟩
    · exact absurd (by simp [deed, e]) h
  | ap (ap (ap (lf q) x) y) z, h =>
    by_cases e : q = "S"
    · subst e; exact .inr ⟨_, _, _, rfl⟩
    · exact absurd (by simp [deed, e]) h
  | ap (ap (ap (ap p q) x) y) z, h => exact absurd rfl h
theorem val.cases {t : Tm} {P : Wy → Bool} (h : t.val P) (e : P [] = true) : (∃ x b, t = ap (ap (lf "K") x) b) ∨ ∃ x y b, t = ap (ap (ap (lf "S") x) y) b := deed_cases (red_nil.mp (h _ e))
theorem deed_1 (k : Str) (x : Tm) : (ap (lf k) x).deed = 0 := rfl
theorem deed_2S (x y : Tm) : (ap (ap (lf "S") x) y).deed = 0 := by
  have : ¬ ("S" : Str) = "K" := by decide +kernel
  simp [deed, this]
theorem val.x1 {k : Str} {x : Tm} {P : Wy → Bool} (h : (ap (lf k) x).val P) : P [] = false := h.no rfl
theorem val.lf {s : Str} {P : Wy → Bool} (h : (lf s).val P) (w : Wy) : P w = false := by
  cases e : P w with
  | false => rfl
  | true => exact absurd (h _ e) red_lf

/-! ### all at once -/
def dev (t : Tm) (P : Wy → Bool) : Tm := match t with
  | lf s => lf s
  | ap a b => if P [] = true then (match a with
      | ap (lf _) x => dev x fun w => P (0 :: 1 :: w)
      | ap (ap (lf _) x) y => ap (ap (dev x fun w => P (0 :: 0 :: 1 :: w)) (dev b fun w => P (1 :: w))) (ap (dev y fun w => P (0 :: 1 :: w)) (dev b fun w => P (1 :: w)))
      | _ => ap a b) else ap (dev a fun w => P (0 :: w)) (dev b fun w => P (1 :: w))
termination_by t.lv
decreasing_by all_goals (simp only [lv]; (try (have := lv_pos a)); (try (have := lv_pos b)); (try (have := lv_pos x)); (try (have := lv_pos y)); omega)
theorem dev_lf (s : Str) (P : Wy → Bool) : dev (lf s) P = lf s := by rw [dev.eq_def]
theorem dev_no {a b : Tm} {P : Wy → Bool} (h : P [] = false) : dev (ap a b) P = ap (dev a fun w => P (0 :: w)) (dev b fun w => P (1 :: w)) := by rw [dev.eq_def]; simp [h]
theorem dev_K {k : Str} {x b : Tm} {P : Wy → Bool} (h : P [] = true) : dev (ap (ap (lf k) x) b) P = dev x fun w => P (0 :: 1 :: w) := by rw [dev.eq_def]; simp [h]
theorem dev_S {k : Str} {x y b : Tm} {P : Wy → Bool} (h : P [] = true) : dev (ap (ap (ap (lf k) x) y) b) P = ap (ap (dev x fun w => P (0 :: 0 :: 1 :: w)) (dev b fun w => P (1 :: w))) (ap (dev y fun w => P (0 :: 1 :: w)) (dev b fun w => P (1 :: w))) := by rw [dev.eq_def]; simp [h]
theorem dev_x1 {k : Str} {x : Tm} {P : Wy → Bool} (h : (ap (lf k) x).val P) : dev (ap (lf k) x) P = ap (lf k) (dev x fun w => P (1 :: w)) := by
  rw [dev_no h.x1, dev_lf]
theorem dev_x2 {x y : Tm} {P : Wy → Bool} (h : (ap (ap (lf "S") x) y).val P) : dev (ap (ap (lf "S") x) y) P = ap (ap (lf "S") (dev x fun w => P (0 :: 1 :: w))) (dev y fun w => P (1 :: w)) := by
  rw [dev_no (h.no (deed_2S x y)), dev_x1 h.l]
/-- an induction over terms and their steps -/
theorem val_rec {C : Tm → Prop} (hl : ∀ s, C (lf s)) (ha : ∀ a b, C a → C b → (∀ s x, a = ap (lf s) x → C x) → (∀ s x y, a = ap (ap (lf s) x) y → C x ∧ C y) → C (ap a b)) : ∀ t, C t
  | lf s => hl s
  | ap a b => ha a b (val_rec hl ha a) (val_rec hl ha b) (fun k x e => val_rec hl ha x) (fun k x y e => ⟨val_rec hl ha x, val_rec hl ha y⟩)
termination_by t => t.lv
decreasing_by all_goals ((try subst e); simp only [lv]; (try (have := lv_pos a)); (try (have := lv_pos b)); (try (have := lv_pos x)); (try (have := lv_pos y)); omega)
theorem dev_none : ∀ (t : Tm) {P : Wy → Bool}, (∀ w, P w = false) → dev t P = t
  | lf s, P, h => dev_lf s P
  | ap a b, P, h => by rw [dev_no (h _), dev_none a fun w => h _, dev_none b fun w => h _]
theorem dev_ok (t : Tm) : ∀ {P : Wy → Bool}, t.val P → t.ok = true → (dev t P).ok = true := by
  induction t using val_rec with
  | hl s => intro P h ho; rw [dev_lf]; exact ho
  | ha a b iha ihb ih1 ih2 =>
    intro P h ho
    have ho' : a.ok = true ∧ b.ok = true := by simpa [ok] using ho
    cases e : P [] with
    | false =>
      rw [dev_no e]
      simp [ok, iha h.l ho'.1, ihb h.r ho'.2]
    | true =>
      rcases h.cases e with ⟨x, b', q⟩ | ⟨x, y, b', q⟩
      · cases q
        rw [dev_K e]
        exact ih1 _ _ rfl h.l.r (by simpa [ok] using (show _ from (by simpa [ok] using ho'.1 : (lf "K").ok = true ∧ x.ok = true)).2)
      · cases q
        rw [dev_S e]
        have h1 : (Tm.lf "S").ok = true ∧ x.ok = true ∧ y.ok = true := by
          have := ho'.1
          simp [ok] at this ⊢
          exact ⟨this.1.1, this.1.2, this.2⟩
        have i1 := (ih2 _ _ _ rfl).1 h.l.l.r h1.2.1
        have i2 := (ih2 _ _ _ rfl).2 h.l.r h1.2.2
        have i3 := ihb h.r ho'.2
        simp [ok, i1, i2, i3]
end Tm
end CH

/-! T 2: what is left of steps behind others; both sides meet. -/
namespace CH
open PySem
def isIn (l : List Wy) (w : Wy) : Bool := l.contains w
theorem isIn_iff {l : List Wy} {w : Wy} : isIn l w = true ↔ w ∈ l := by simp [isIn]
theorem isIn_eq {l : List Wy} {w : Wy} {b : Bool} (h : w ∈ l ↔ b = true) : isIn l w = b := by
  cases b with
  | true => exact isIn_iff.mpr (h.mpr rfl)
  | false =>
    cases e : isIn l w with
    | false => rfl
    | true => exact absurd (h.mp (isIn_iff.mp e)) Bool.false_ne_true
theorem isIn_cons {l : List Wy} {n : Nat} {w : Wy} : isIn (l.map (n :: ·)) (n :: w) = isIn l w := isIn_eq (by rw [isIn_iff]; simp)
theorem isIn_app {l m : List Wy} {w : Wy} : isIn (l ++ m) w = (isIn l w || isIn m w) := isIn_eq (by rw [List.mem_append, Bool.or_eq_true, isIn_iff, isIn_iff])
theorem isIn_off {l : List Wy} {n m : Nat} {w : Wy} (h : n ≠ m) : isIn (l.map (n :: ·)) (m :: w) = false := isIn_eq (by simp; intro _ z; exact absurd z h)
theorem isIn_nil0 {l : List Wy} {n : Nat} : isIn (l.map (n :: ·)) [] = false := isIn_eq (by simp)
theorem isIn_e (w : Wy) : isIn [] w = false := rfl
namespace Tm
/-- the ways of what is left of Q behind P -/
def res (t : Tm) (P Q : Wy → Bool) : List Wy := match t with
  | lf _ => []
  | ap a b => if P [] = true then (match a with
      | ap (lf _) x => res x (fun w => P (0 :: 1 :: w)) fun w => Q (0 :: 1 :: w)
      | ap (ap (lf _) x) y =>
        ((res x (fun w => P (0 :: 0 :: 1 :: w)) fun w => Q (0 :: 0 :: 1 :: w)).map (0 :: ·) ++ (res b (fun w => P (1 :: w)) fun w => Q (1 :: w)).map (1 :: ·)).map (0 :: ·) ++
        ((res y (fun w => P (0 :: 1 :: w)) fun w => Q (0 :: 1 :: w)).map (0 :: ·) ++ (res b (fun w => P (1 :: w)) fun w => Q (1 :: w)).map (1 :: ·)).map (1 :: ·)
      | _ => []) else (if Q [] = true then [[]] else []) ++ ((res a (fun w => P (0 :: w)) fun w => Q (0 :: w)).map (0 :: ·) ++ (res b (fun w => P (1 :: w)) fun w => Q (1 :: w)).map (1 :: ·))
termination_by t.lv
decreasing_by all_goals (simp only [lv]; (try (have := lv_pos a)); (try (have := lv_pos b)); (try (have := lv_pos x)); (try (have := lv_pos y)); omega)
theorem res_lf (s : Str) (P Q : Wy → Bool) : res (lf s) P Q = [] := by rw [res.eq_def]
theorem res_no {a b : Tm} {P Q : Wy → Bool} (h : P [] = false) : res (ap a b) P Q = (if Q [] = true then [[]] else []) ++ ((res a (fun w => P (0 :: w)) fun w => Q (0 :: w)).map (0 :: ·) ++ (res b (fun w => P (1 :: w)) fun w => Q (1 :: w)).map (1 :: ·)) := by rw [res.eq_def]; simp [h]
theorem res_K {k : Str} {x b : Tm} {P Q : Wy → Bool} (h : P [] = true) : res (ap (ap (lf k) x) b) P Q = res x (fun w => P (0 :: 1 :: w)) fun w => Q (0 :: 1 :: w) := by rw [res.eq_def]; simp [h]
theorem res_S {k : Str} {x y b : Tm} {P Q : Wy → Bool} (h : P [] = true) : res (ap (ap (ap (lf k) x) y) b) P Q = ((res x (fun w => P (0 :: 0 :: 1 :: w)) fun w => Q (0 :: 0 :: 1 :: w)).map (0 :: ·) ++ (res b (fun w => P (1 :: w)) fun w => Q (1 :: w)).map (1 :: ·)).map (0 :: ·) ++
        ((res y (fun w => P (0 :: 1 :: w)) fun w => Q (0 :: 1 :: w)).map (0 :: ·) ++ (res b (fun w => P (1 :: w)) fun w => Q (1 :: w)).map (1 :: ·)).map (1 :: ·) := by rw [res.eq_def]; simp [h]
section
variable {a b : Tm} {P Q : Wy → Bool}
theorem res_no_nil (h : P [] = false) : isIn (res (ap a b) P Q) [] = Q [] := by
  rw [res_no h, isIn_app, isIn_app, isIn_nil0, isIn_nil0]
  cases Q [] <;> simp [isIn]
theorem res_no_0 (h : P [] = false) (w : Wy) : isIn (res (ap a b) P Q) (0 :: w) = isIn (res a (fun w => P (0 :: w)) fun w => Q (0 :: w)) w := by
  rw [res_no h, isIn_app, isIn_app, isIn_cons, isIn_off (by decide)]
  cases Q [] <;> simp [isIn]
theorem res_no_1 (h : P [] = false) (w : Wy) : isIn (res (ap a b) P Q) (1 :: w) = isIn (res b (fun w => P (1 :: w)) fun w => Q (1 :: w)) w := by
  rw [res_no h, isIn_app, isIn_app, isIn_cons, isIn_off (by decide)]
  cases Q [] <;> simp [isIn]
end
/-- what is left is steps again -/
theorem res_val (t : Tm) : ∀ {P Q : Wy → Bool}, t.val P → t.val Q → (dev t P).val (isIn (res t P Q)) := by
  induction t using val_rec with
  | hl s => intro P Q hP hQ w e; rw [res_lf] at e; cases e
  | ha a b iha ihb ih1 ih2 =>
    intro P Q hP hQ
    cases e : P [] with
    | false =>
      rw [dev_no e]
      intro w hw
      match w, hw with
      | [], hw =>
        rw [res_no_nil e] at hw
        rw [red_nil]
        rcases hQ.cases hw with ⟨x, b', q⟩ | ⟨x, y, b', q⟩
        · cases q
          rw [dev_x1 hP.l]
          simp [deed]
        · cases q
          rw [dev_x2 hP.l]
          have : ¬ ("S" : Str) = "K" := by decide +kernel
          simp [deed]
      | 0 :: w, hw =>
        rw [res_no_0 e] at hw
        exact red_0.mpr (iha hP.l hQ.l w hw)
      | 1 :: w, hw =>
        rw [res_no_1 e] at hw
        exact red_1.mpr (ihb hP.r hQ.r w hw)
      | (n + 2) :: w, hw =>
        rw [res_no e, isIn_app, isIn_app, isIn_off (by omega), isIn_off (by omega)] at hw
        exfalso
        cases q : Q [] <;> simp [q, isIn] at hw
    | true =>
      rcases hP.cases e with ⟨x, b', q⟩ | ⟨x, y, b', q⟩
      · cases q
        rw [dev_K e, res_K e]
        exact ih1 _ _ rfl hP.l.r hQ.l.r
      · cases q
        rw [dev_S e, res_S e]
        have i1 := (ih2 _ _ _ rfl).1 hP.l.l.r hQ.l.l.r
        have i2 := (ih2 _ _ _ rfl).2 hP.l.r hQ.l.r
        have i3 := ihb hP.r hQ.r
        intro w hw
        rw [isIn_iff] at hw
        simp only [List.mem_append, List.mem_map] at hw
        rcases hw with ⟨v, h | h, rfl⟩ | ⟨v, h | h, rfl⟩
        · obtain ⟨u, h, rfl⟩ := h
          exact red_0.mpr (red_0.mpr (i1 u (isIn_iff.mpr h)))
        · obtain ⟨u, h, rfl⟩ := h
          exact red_0.mpr (red_1.mpr (i3 u (isIn_iff.mpr h)))
        · obtain ⟨u, h, rfl⟩ := h
          exact red_1.mpr (red_0.mpr (i2 u (isIn_iff.mpr h)))
        · obtain ⟨u, h, rfl⟩ := h
          exact red_1.mpr (red_1.mpr (i3 u (isIn_iff.mpr h)))
theorem dev_congr (t : Tm) {P Q : Wy → Bool} (h : ∀ w, P w = Q w) : dev t P = dev t Q := by rw [show P = Q from funext h]
theorem map2_0 {l m : List Wy} {w : Wy} (f : Nat → Nat → Bool) : isIn ((l.map (0 :: ·) ++ m.map (1 :: ·)).map (0 :: ·) ++ (l.map (0 :: ·) ++ m.map (1 :: ·)).map (1 :: ·)) (0 :: 0 :: w) = isIn l w := by
  rw [isIn_app, isIn_cons, isIn_off (by decide), isIn_app, isIn_cons, isIn_off (by decide), Bool.or_false, Bool.or_false]
/-- the some, and then what is left of the others: both together -/
theorem dev_res (t : Tm) : ∀ {P Q : Wy → Bool}, t.val P → t.val Q → dev (dev t P) (isIn (res t P Q)) = dev t fun w => P w || Q w := by
  induction t using val_rec with
  | hl s => intro P Q hP hQ; rw [dev_lf, dev_lf, dev_lf]
  | ha a b iha ihb ih1 ih2 =>
    intro P Q hP hQ
    have i3 := ihb hP.r hQ.r
    cases e : P [] with
    | false =>
      cases eq : Q [] with
      | false =>
        rw [dev_no e, dev_no (by rw [res_no_nil e, eq]), dev_no (by rw [e, eq]; rfl)]
        rw [dev_congr _ fun w => res_no_0 e w, dev_congr _ fun w => res_no_1 e w, iha hP.l hQ.l, i3]
      | true =>
        rcases hQ.cases eq with ⟨x, b', q⟩ | ⟨x, y, b', q⟩
        · cases q
          rw [dev_no e, dev_x1 hP.l, dev_K (by rw [res_no_nil e, eq]), dev_K (by rw [e, eq]; rfl)]
          rw [dev_congr _ fun w => (res_no_0 e (1 :: w)).trans (res_no_1 hP.l.x1 w), ih1 _ _ rfl hP.l.r hQ.l.r]
        · cases q
          have n1 := hP.l.no (deed_2S x y)
          rw [dev_no e, dev_x2 hP.l, dev_S (by rw [res_no_nil e, eq]), dev_S (by rw [e, eq]; rfl)]
          rw [dev_congr _ fun w => ((res_no_0 e (0 :: 1 :: w)).trans (res_no_0 n1 (1 :: w))).trans (res_no_1 hP.l.l.x1 w), (ih2 _ _ _ rfl).1 hP.l.l.r hQ.l.l.r]
          rw [dev_congr (dev y _) fun w => (res_no_0 e (1 :: w)).trans (res_no_1 n1 w), (ih2 _ _ _ rfl).2 hP.l.r hQ.l.r]
          rw [dev_congr _ fun w => res_no_1 e w, i3]
    | true =>
      rcases hP.cases e with ⟨x, b', q⟩ | ⟨x, y, b', q⟩
      · cases q
        rw [dev_K e, res_K e, dev_K (by rw [e]; rfl)]
        exact ih1 _ _ rfl hP.l.r hQ.l.r
      · cases q
        rw [dev_S e, res_S e, dev_S (by rw [e]; rfl)]
        rw [dev_no (by rw [isIn_app, isIn_nil0, isIn_nil0]; rfl)]
        rw [dev_no (by rw [isIn_app, isIn_cons, isIn_off (by decide), isIn_app, isIn_nil0, isIn_nil0]; rfl)]
        rw [dev_no (by rw [isIn_app, isIn_cons, isIn_off (by decide), isIn_app, isIn_nil0, isIn_nil0]; rfl)]
        rw [dev_congr _ fun w => (by rw [isIn_app, isIn_cons, isIn_off (by decide), isIn_app, isIn_cons, isIn_off (by decide), Bool.or_false, Bool.or_false] :
          isIn _ (0 :: 0 :: w) = isIn (res x (fun w => P (0 :: 0 :: 1 :: w)) fun w => Q (0 :: 0 :: 1 :: w)) w), (ih2 _ _ _ rfl).1 hP.l.l.r hQ.l.l.r]
        rw [dev_congr (dev b _) fun w => (by rw [isIn_app, isIn_cons, isIn_off (by decide), isIn_app, isIn_cons, isIn_off (by decide), Bool.or_false, Bool.false_or] :
          isIn _ (0 :: 1 :: w) = isIn (res b (fun w => P (1 :: w)) fun w => Q (1 :: w)) w), i3]
        rw [dev_congr (dev y _) fun w => (by rw [isIn_app, isIn_cons, isIn_off (by decide), isIn_app, isIn_cons, isIn_off (by decide), Bool.or_false, Bool.false_or] :
          isIn _ (1 :: 0 :: w) = isIn (res y (fun w => P (0 :: 1 :: w)) fun w => Q (0 :: 1 :: w)) w), (ih2 _ _ _ rfl).2 hP.l.r hQ.l.r]
        rw [dev_congr (dev b _) fun w => (by rw [isIn_app, isIn_cons, isIn_off (by decide), isIn_app, isIn_cons, isIn_off (by decide), Bool.false_or, Bool.false_or] :
          isIn _ (1 :: 1 :: w) = isIn (res b (fun w => P (1 :: w)) fun w => Q (1 :: w)) w), i3]
end Tm
end CH

/-! T 3: one by one, the inner ones first. -/
namespace CH
open PySem
namespace Tm
instance (t : Tm) (w : Wy) : Decidable (t.red w) := decidable_of_iff _ (mem_ways t w)
def runs (t : Tm) : List Wy → Option Tm
  | [] => some t
  | w :: r => if t.red w then (t.step w).runs r else none
theorem runs_app : ∀ (l m : List Wy) (t : Tm), t.runs (l ++ m) = (t.runs l).bind fun u => u.runs m
  | [], m, t => rfl
  | w :: l, m, t => by
    rw [List.cons_append, runs, runs]
    split
    · exact runs_app l m _
    · rfl
theorem step_0 (a b : Tm) (w : Wy) : (ap a b).step (0 :: w) = ap (a.step w) b := by
  unfold step
  rw [show (ap a b).part (0 :: w) = a.part w by simp [part]]
  cases a.part w <;> simp [put]
theorem step_1 (a b : Tm) (w : Wy) : (ap a b).step (1 :: w) = ap a (b.step w) := by
  unfold step
  rw [show (ap a b).part (1 :: w) = b.part w by simp [part]]
  cases b.part w <;> simp [put]
theorem step_nil (t : Tm) : t.step [] = t.done := by
  unfold step
  rw [part_nil]
  cases t <;> simp [put]
theorem runs_0 : ∀ (l : List Wy) (a b : Tm), (ap a b).runs (l.map (0 :: ·)) = (a.runs l).map fun u => ap u b
  | [], a, b => rfl
  | w :: l, a, b => by
    rw [List.map_cons, runs, runs, step_0]
    by_cases h : a.red w
    · rw [if_pos (red_0.mpr h), if_pos h]; exact runs_0 l _ b
    · rw [if_neg (fun z => h (red_0.mp z)), if_neg h]; rfl
theorem runs_1 : ∀ (l : List Wy) (a b : Tm), (ap a b).runs (l.map (1 :: ·)) = (b.runs l).map fun u => ap a u
  | [], a, b => rfl
  | w :: l, a, b => by
    rw [List.map_cons, runs, runs, step_1]
    by_cases h : b.red w
    · rw [if_pos (red_1.mpr h), if_pos h]; exact runs_1 l a _
    · rw [if_neg (fun z => h (red_1.mp z)), if_neg h]; rfl
/-- steps, falling -/
def desc : Tm → (Wy → Bool) → List Wy
  | lf _, _ => []
  | ap a b, P => (desc b fun w => P (1 :: w)).map (1 :: ·) ++ ((desc a fun w => P (0 :: w)).map (0 :: ·) ++ if P [] = true then [[]] else [])
theorem runs_desc : ∀ (t : Tm) {P : Wy → Bool}, t.val P → t.runs (desc t P) = some (dev t P)
  | lf s, P, h => by rw [dev_lf]; rfl
  | ap a b, P, h => by
    have ia := runs_desc a h.l
    have ib := runs_desc b h.r
    rw [desc, runs_app, runs_1, ib, Option.map_some, Option.bind_some, runs_app, runs_0, ia, Option.map_some, Option.bind_some]
    cases e : P [] with
    | false => rw [dev_no e]; rfl
    | true =>
      rw [if_pos rfl]
      rcases h.cases e with ⟨x, b', q⟩ | ⟨x, y, b', q⟩
      · cases q
        rw [dev_x1 h.l, dev_K e, runs, if_pos (by rw [red_nil]; simp [deed]), step_nil]
        rfl
      · cases q
        have : ¬ ("S" : Str) = "K" := by decide +kernel
        rw [dev_x2 h.l, dev_S e, runs, if_pos (by rw [red_nil]; simp [deed, this]), step_nil]
        rfl
theorem mem_desc : ∀ (t : Tm) {P : Wy → Bool}, t.val P → ∀ w, w ∈ desc t P ↔ P w = true
  | lf s, P, h, w => ⟨fun e => (by cases e), fun e => absurd (h w e) red_lf⟩
  | ap a b, P, h, w => by
    have ia := mem_desc a h.l
    have ib := mem_desc b h.r
    rw [desc, List.mem_append, List.mem_append, List.mem_map, List.mem_map]
    constructor
    · rintro (⟨v, e, rfl⟩ | ⟨v, e, rfl⟩ | e)
      · exact (ib v).mp e
      · exact (ia v).mp e
      · split at e
        · rw [List.mem_singleton.mp e]; assumption
        · cases e
    · intro e
      match w, e with
      | [], e => exact .inr (.inr (by rw [if_pos e]; exact List.mem_singleton.mpr rfl))
      | 0 :: v, e => exact .inr (.inl ⟨v, (ia v).mpr e, rfl⟩)
      | 1 :: v, e => exact .inl ⟨v, (ib v).mpr e, rfl⟩
      | (n + 2) :: v, e => exact absurd (h _ e) red_2
/-- the order of ways -/
def wlt : Wy → Wy → Bool
  | _, [] => false
  | [], _ :: _ => true
  | a :: r, b :: s => decide (a < b) || (decide (a = b) && wlt r s)
theorem wlt_irr : ∀ w, wlt w w = false
  | [] => rfl
  | a :: r => by simp [wlt, wlt_irr r]
theorem wlt_trans : ∀ {a b c : Wy}, wlt a b = true → wlt b c = true → wlt a c = true
  | a, [], _, h, _ => (by cases a <;> simp [wlt] at h)
  | _, _ :: _, [], _, h => by cases h
  | [], _ :: _, _ :: _, _, _ => rfl
  | a :: r, b :: s, c :: t, h, k => by
    simp [wlt] at h k ⊢
    rcases h with h | ⟨rfl, h⟩
    · rcases k with k | ⟨rfl, k⟩
      · exact .inl (by omega)
      · exact .inl h
    · rcases k with k | ⟨rfl, k⟩
      · exact .inl k
      · exact .inr ⟨rfl, wlt_trans h k⟩
theorem wlt_tri : ∀ (a b : Wy), a ≠ b → wlt a b = true ∨ wlt b a = true
  | [], [], h => absurd rfl h
  | [], _ :: _, _ => .inl rfl
  | _ :: _, [], _ => .inr rfl
  | a :: r, b :: s, h => by
    simp [wlt]
    by_cases e : a = b
    · subst e
      have := wlt_tri r s fun z => h (by rw [z])
      simpa using this
    · omega
theorem desc_sorted : ∀ (t : Tm) (P : Wy → Bool), (desc t P).Pairwise fun a b => wlt b a = true
  | lf _, _ => .nil
  | ap a b, P => by
    rw [desc]
    refine List.pairwise_append.mpr ⟨?_, List.pairwise_append.mpr ⟨?_, ?_, ?_⟩, ?_⟩
    · exact List.pairwise_map.mpr ((desc_sorted b _).imp fun {x y} h => by simpa [wlt] using h)
    · exact List.pairwise_map.mpr ((desc_sorted a _).imp fun {x y} h => by simpa [wlt] using h)
    · split
      · exact List.pairwise_singleton ..
      · exact .nil
    · intro x hx y hy
      obtain ⟨v, _, rfl⟩ := List.mem_map.mp hx
      split at hy
      · rw [List.mem_singleton.mp hy]; rfl
      · cases hy
    · intro x hx y hy
      obtain ⟨v, _, rfl⟩ := List.mem_map.mp hx
      rcases List.mem_append.mp hy with hy | hy
      · obtain ⟨u, _, rfl⟩ := List.mem_map.mp hy
        simp [wlt]
      · split at hy
        · rw [List.mem_singleton.mp hy]; rfl
        · cases hy
end Tm
/-- two rising lists with the same items are the same -/
theorem sorted_eq {α : Type} {r : α → α → Prop} (hi : ∀ a, ¬ r a a) (ht : ∀ a b c, r a b → r b c → r a c) : ∀ {l m : List α}, l.Pairwise r → m.Pairwise r → (∀ x, x ∈ l ↔ x ∈ m) → l = m
  | [], [], _, _, _ => rfl
  | [], y :: m, _, _, h => by have := (h y).mpr (List.mem_cons_self ..); cases this
  | x :: l, [], _, _, h => by have := (h x).mp (List.mem_cons_self ..); cases this
  | x :: l, y :: m, hl, hm, h => by
    obtain ⟨h1, h2⟩ := List.pairwise_cons.mp hl
    obtain ⟨h3, h4⟩ := List.pairwise_cons.mp hm
    have e : x = y := by
      rcases List.mem_cons.mp ((h x).mp (List.mem_cons_self ..)) with e | e
      · exact e
      · rcases List.mem_cons.mp ((h y).mpr (List.mem_cons_self ..)) with e' | e'
        · exact e'.symm
        · exact absurd (ht _ _ _ (h3 x e) (h1 y e')) (hi _)
    subst e
    congr 1
    refine sorted_eq hi ht h2 h4 fun z => ?_
    constructor
    · intro hz
      rcases List.mem_cons.mp ((h z).mp (List.mem_cons_of_mem _ hz)) with e | e
      · exact absurd (e ▸ h1 z hz) (hi _)
      · exact e
    · intro hz
      rcases List.mem_cons.mp ((h z).mpr (List.mem_cons_of_mem _ hz)) with e | e
      · exact absurd (e ▸ h3 z hz) (hi _)
      · exact e
/-! ### sorted, of ways -/
theorem dataLt_wD (w v : Wy) : PySem.W.dataLt (wD w) (wD v) = Tm.wlt w v := by
  have key : ∀ w v : Wy, decide (w.map (fun x : Nat => (x : Int)) < v.map fun x : Nat => (x : Int)) = Tm.wlt w v := by
    intro w
    induction w with
    | nil =>
      intro v
      cases v with
      | nil => simp [Tm.wlt]
      | cons b s => simp [Tm.wlt]
    | cons a r ih =>
      intro v
      cases v with
      | nil => simp [Tm.wlt]
      | cons b s =>
        rw [List.map_cons, List.map_cons, Tm.wlt, ← ih s]
        by_cases h : a < b
        · simp [h, List.cons_lt_cons_iff]
        · by_cases e : a = b
          · subst e; simp [List.cons_lt_cons_iff]
          · simp [h, e, List.cons_lt_cons_iff]; omega
  have e1 : ∀ w : Wy, nD w = (w.map fun x : Nat => (x : Int)).map PyData.int := fun w => by simp [nD]
  rw [← key, ← PySem.W.dataLt_ints, ← e1, ← e1, wD, wD, PySem.W.dataLt_tuple]
  rfl
/-- sorted by a total order: the one rising list of the same items -/
theorem sort_uniq {α : Type} {lt : α → α → Bool} (irr : ∀ a, lt a a = false) (tra : ∀ {a b c}, lt a b = true → lt b c = true → lt a c = true) (tri : ∀ a b, a ≠ b → lt a b = true ∨ lt b a = true)
    {l m : List α} (hn : l.Nodup) (hm : m.Pairwise fun a b => lt a b = true) (h : ∀ w, w ∈ l ↔ w ∈ m) : l.mergeSort (fun a b => !lt b a) = m := by
  have tot : ∀ a b : α, (!lt b a || !lt a b) = true := fun a b => by
    cases e : lt b a with
    | false => rfl
    | true =>
      cases e' : lt a b with
      | false => rfl
      | true => have := tra e e'; rw [irr] at this; cases this
  have tr : ∀ a b c : α, (!lt b a) = true → (!lt c b) = true → (!lt c a) = true := fun a b c h1 h2 => by
    cases e : lt c a with
    | false => rfl
    | true =>
      by_cases q : a = b
      · subst q; rw [e] at h2; cases h2
      · rcases tri a b q with w | w
        · rw [tra e w] at h2; cases h2
        · rw [w] at h1; cases h1
  have p := List.mergeSort_perm l (fun a b => !lt b a)
  have s := List.pairwise_mergeSort tr tot l
  have nd : (l.mergeSort fun a b => !lt b a).Nodup := p.symm.nodup hn
  refine sorted_eq (r := fun a b => lt a b = true) (fun a z => by rw [irr] at z; cases z) (fun a b c => tra) ?_ hm fun x => p.mem_iff.trans (h x)
  have nd' : (l.mergeSort fun a b => !lt b a).Pairwise (· ≠ ·) := nd
  refine (s.and nd').imp fun {a b} ⟨h1, h2⟩ => ?_
  rcases tri a b h2 with w | w
  · exact w
  · rw [w] at h1; cases h1
theorem sort_unique {l m : List Wy} (hn : l.Nodup) (hm : m.Pairwise fun a b => Tm.wlt a b = true) (h : ∀ w, w ∈ l ↔ w ∈ m) : l.mergeSort (fun a b => !Tm.wlt b a) = m :=
  sort_uniq Tm.wlt_irr Tm.wlt_trans Tm.wlt_tri hn hm h
theorem sortD_ways {l m : List Wy} (hn : l.Nodup) (hm : m.Pairwise fun a b => Tm.wlt a b = true) (h : ∀ w, w ∈ l ↔ w ∈ m) : sortD (l.map wD) = m.map wD := by
  rw [← sort_unique hn hm h]
  refine (List.map_mergeSort fun a _ b _ => ?_).symm
  show (!Tm.wlt b a) = PySem.W.dataLe false id (wD a) (wD b)
  rw [← dataLt_wD]
  rfl
theorem sortR_ways {l m : List Wy} (hn : l.Nodup) (hm : m.Pairwise fun a b => Tm.wlt b a = true) (h : ∀ w, w ∈ l ↔ w ∈ m) : sortR (l.map wD) = m.map wD := by
  rw [← sort_uniq (lt := fun a b => Tm.wlt b a) Tm.wlt_irr (fun h k => Tm.wlt_trans k h) (fun a b h => (Tm.wlt_tri a b h).symm) hn hm h]
  refine (List.map_mergeSort fun a _ b _ => ?_).symm
  show (!Tm.wlt a b) = PySem.W.dataLe true id (wD a) (wD b)
  rw [← dataLt_wD]
  rfl
end CH

/-! T 4: heads; steps by marks on letters. -/
namespace CH
open PySem
namespace Tm
/-- the first leaf, and how many it is put on -/
def hd : Tm → Str × Nat
  | lf s => (s, 0)
  | ap a _ => ((hd a).1, (hd a).2 + 1)
def deedL (k s : Str) (t : Tm) : Nat := if t.hd = (k, 2) then 2 else if t.hd = (s, 3) then 3 else 0
theorem hd_K {k : Str} {x b : Tm} : (ap (ap (lf k) x) b).hd = (k, 2) := rfl
theorem hd_S {k : Str} {x y b : Tm} : (ap (ap (ap (lf k) x) y) b).hd = (k, 3) := rfl
theorem deedL_eq (t : Tm) : deedL "K" "S" t = if t.deed = 0 then 0 else t.deed + 1 := by
  have ks : ¬ ("S" : Str) = "K" := by decide +kernel
  unfold deedL
  match t with
  | lf s => simp [hd, deed]
  | ap (lf s) y => simp [hd, deed]
  | ap (ap (lf q) x) y =>
    by_cases e : q = "K"
    · simp [hd, deed, e]
    · simp [hd, deed, e]
  | ap (ap (ap (lf q) x) y) z =>
    by_cases e : q = "S"
    · simp [hd, deed, e, ks]
    · simp [hd, deed, e]
  | ap (ap (ap (ap p q) x) y) z => simp [hd, deed]
/-- the ways to all parts -/
def aways : Tm → List Wy
  | lf _ => [[]]
  | ap a b => [] :: ((aways a).map (0 :: ·) ++ (aways b).map (1 :: ·))
/-- the ways to the parts of which p is true -/
def pways (p : Tm → Bool) : Tm → List Wy
  | lf s => if p (lf s) = true then [[]] else []
  | ap a b => (if p (ap a b) = true then [[]] else []) ++ ((pways p a).map (0 :: ·) ++ (pways p b).map (1 :: ·))
def atP (p : Tm → Bool) (t : Tm) (w : Wy) : Bool := match t.part w with
  | some u => p u
  | none => false
theorem filter_aways (p : Tm → Bool) : ∀ t : Tm, t.aways.filter (atP p t) = pways p t
  | lf s => by
    rw [aways, pways, List.filter_cons, show atP p (lf s) [] = p (lf s) by simp [atP, part]]
    rfl
  | ap a b => by
    have ha := filter_aways p a
    have hb := filter_aways p b
    have e0 : ((aways a).map (0 :: ·)).filter (atP p (ap a b)) = ((aways a).filter (atP p a)).map (0 :: ·) := by
      rw [List.filter_map]; rfl
    have e1 : ((aways b).map (1 :: ·)).filter (atP p (ap a b)) = ((aways b).filter (atP p b)).map (1 :: ·) := by
      rw [List.filter_map]; rfl
    rw [aways, List.filter_cons, List.filter_append, e0, e1, ha, hb, pways, show atP p (ap a b) [] = p (ap a b) by simp [atP, part]]
    split <;> rfl
theorem ways_p : ∀ t : Tm, t.ways = pways (fun u => decide (0 < deedL "K" "S" u)) t
  | lf s => by simp [ways, pways, deedL_eq, deed]
  | ap a b => by
    rw [ways, pways, ways_p a, ways_p b, deedL_eq]
    by_cases h : (ap a b).deed = 0
    · simp [h]
    · simp [h]
theorem aways_part : ∀ (t : Tm) (w : Wy), w ∈ t.aways ↔ ∃ u, t.part w = some u
  | lf s, [] => by simp [aways, part]
  | lf s, _ :: _ => by simp [aways, part]
  | ap a b, [] => by simp [aways, part]
  | ap a b, 0 :: w => by simp [aways, part, aways_part a w]
  | ap a b, 1 :: w => by simp [aways, part, aways_part b w]
  | ap a b, (n + 2) :: w => by simp [aways, part]
theorem aways_num : ∀ t : Tm, t.aways.length + 1 = 2 * t.lv
  | lf s => rfl
  | ap a b => by
    have := aways_num a
    have := aways_num b
    simp [aways, lv]; omega
theorem aways_len : ∀ (t : Tm) (w : Wy), w ∈ t.aways → w.length ≤ t.dp
  | lf s, w, h => by rw [aways, List.mem_singleton] at h; rw [h]; exact Nat.zero_le _
  | ap a b, w, h => by
    simp only [aways, List.mem_cons, List.mem_append, List.mem_map] at h
    rcases h with rfl | ⟨v, hv, rfl⟩ | ⟨v, hv, rfl⟩
    · exact Nat.zero_le _
    · have := aways_len a v hv
      simp [dp]; omega
    · have := aways_len b v hv
      simp [dp]; omega
/-! ### marks -/
def bang (s : Str) : Str := s ++ ("!" : Str)
/-- the letters of steps marked -/
def mark (t : Tm) (Q : Wy → Bool) : Tm := match t with
  | lf s => lf s
  | ap a b => if Q [] = true then (match a with
      | ap (lf k) x => ap (ap (lf (bang k)) (mark x fun w => Q (0 :: 1 :: w))) (mark b fun w => Q (1 :: w))
      | ap (ap (lf k) x) y => ap (ap (ap (lf (bang k)) (mark x fun w => Q (0 :: 0 :: 1 :: w))) (mark y fun w => Q (0 :: 1 :: w))) (mark b fun w => Q (1 :: w))
      | _ => ap a b) else ap (mark a fun w => Q (0 :: w)) (mark b fun w => Q (1 :: w))
termination_by t.lv
decreasing_by all_goals (simp only [lv]; (try (have := lv_pos a)); (try (have := lv_pos b)); (try (have := lv_pos x)); (try (have := lv_pos y)); omega)
theorem mark_lf (s : Str) (P : Wy → Bool) : mark (lf s) P = lf s := by rw [mark.eq_def]
theorem mark_no {a b : Tm} {P : Wy → Bool} (h : P [] = false) : mark (ap a b) P = ap (mark a fun w => P (0 :: w)) (mark b fun w => P (1 :: w)) := by rw [mark.eq_def]; simp [h]
theorem mark_K {k : Str} {x b : Tm} {P : Wy → Bool} (h : P [] = true) : mark (ap (ap (lf k) x) b) P = ap (ap (lf (bang k)) (mark x fun w => P (0 :: 1 :: w))) (mark b fun w => P (1 :: w)) := by rw [mark.eq_def]; simp [h]
theorem mark_S {k : Str} {x y b : Tm} {P : Wy → Bool} (h : P [] = true) : mark (ap (ap (ap (lf k) x) y) b) P = ap (ap (ap (lf (bang k)) (mark x fun w => P (0 :: 0 :: 1 :: w))) (mark y fun w => P (0 :: 1 :: w))) (mark b fun w => P (1 :: w)) := by rw [mark.eq_def]; simp [h]
theorem mark_x1 {k : Str} {x : Tm} {P : Wy → Bool} (h : (ap (lf k) x).val P) : mark (ap (lf k) x) P = ap (lf k) (mark x fun w => P (1 :: w)) := by
  rw [mark_no h.x1, mark_lf]
theorem mark_x2 {x y : Tm} {P : Wy → Bool} (h : (ap (ap (lf "S") x) y).val P) : mark (ap (ap (lf "S") x) y) P = ap (ap (lf "S") (mark x fun w => P (0 :: 1 :: w))) (mark y fun w => P (1 :: w)) := by
  rw [mark_no (h.no (deed_2S x y)), mark_x1 h.l]
/-- no letter is marked -/
def clean : Tm → Prop
  | lf s => s ≠ bang "K" ∧ s ≠ bang "S"
  | ap a b => a.clean ∧ b.clean
theorem clean_of {t : Tm} : t.ok = true → t.clean := by
  induction t with
  | lf s =>
    intro h
    have h : isLeaf s = true := h
    constructor
    · rintro rfl; exact absurd h (by decide +kernel)
    · rintro rfl; exact absurd h (by decide +kernel)
  | ap a b iha ihb =>
    intro h
    simp [ok] at h
    exact ⟨iha h.1, ihb h.2⟩
def isB (u : Tm) : Bool := decide (0 < deedL (bang "K") (bang "S") u)
/-- a marked letter has all that it needs -/
def full (t : Tm) : Prop := (t.hd.1 = bang "K" → 2 ≤ t.hd.2) ∧ (t.hd.1 = bang "S" → 3 ≤ t.hd.2)
theorem isB_no {a b : Tm} (h : a.full) : isB (ap a b) = false := by
  have ks : ¬ bang "S" = bang "K" := by decide +kernel
  unfold isB deedL
  by_cases h1 : (ap a b).hd = (bang "K", 2)
  · simp [hd] at h1
    have := h.1 h1.1
    omega
  · by_cases h2 : (ap a b).hd = (bang "S", 3)
    · simp [hd] at h2
      have := h.2 h2.1
      omega
    · rw [if_neg h1, if_neg h2]; rfl
theorem full_ap {a b : Tm} (h : a.full) : (ap a b).full := ⟨fun e => by have := h.1 e; show 2 ≤ a.hd.2 + 1; omega, fun e => by have := h.2 e; show 3 ≤ a.hd.2 + 1; omega⟩
theorem full_lf {s : Str} (h : (lf s).clean) : (lf s).full := ⟨fun e => absurd e h.1, fun e => absurd e h.2⟩
theorem isB_lf (s : Str) : isB (lf s) = false := by
  unfold isB deedL
  simp [hd]
theorem isB_K (x b : Tm) : isB (ap (ap (lf (bang "K")) x) b) = true := by
  unfold isB deedL
  simp [hd]
theorem isB_S (x y b : Tm) : isB (ap (ap (ap (lf (bang "S")) x) y) b) = true := by
  unfold isB deedL
  simp [hd]
theorem bk_full (x : Tm) (b : Tm) : (ap (ap (lf (bang "K")) x) b).full := ⟨fun _ => Nat.le_refl _, fun e => absurd e (by decide +kernel : ¬ bang "K" = bang "S")⟩
theorem bs_full (x y b : Tm) : (ap (ap (ap (lf (bang "S")) x) y) b).full := ⟨fun e => absurd e (by decide +kernel : ¬ bang "S" = bang "K"), fun _ => Nat.le_refl _⟩
theorem pB_x1 (k : Str) (x : Tm) : pways isB (ap (lf k) x) = (pways isB x).map (1 :: ·) := by
  have : isB (ap (lf k) x) = false := by unfold isB deedL; simp [hd]
  rw [pways, this, if_neg Bool.false_ne_true, pways, isB_lf, if_neg Bool.false_ne_true]
  rfl
theorem pB_x2 (x y : Tm) : pways isB (ap (ap (lf (bang "S")) x) y) = ((pways isB x).map (1 :: ·)).map (0 :: ·) ++ (pways isB y).map (1 :: ·) := by
  have : isB (ap (ap (lf (bang "S")) x) y) = false := by
    have ks : ¬ bang "S" = bang "K" := by decide +kernel
    unfold isB deedL
    simp [hd, ks]
  rw [pways, this, if_neg Bool.false_ne_true, pB_x1]
  rfl
/-- done behind the marks, the marked ones are what is left -/
theorem bw_res (t : Tm) : ∀ {P Q : Wy → Bool}, t.val P → t.val Q → (∀ w, (P w && Q w) = false) → t.clean → pways isB (dev (mark t Q) P) = res t P Q ∧ (dev (mark t Q) P).full := by
  induction t using val_rec with
  | hl s =>
    intro P Q hP hQ hd hc
    rw [mark_lf, dev_lf, res_lf, pways, isB_lf, if_neg Bool.false_ne_true]
    exact ⟨rfl, full_lf hc⟩
  | ha a b iha ihb ih1 ih2 =>
    intro P Q hP hQ hd hc
    have hb := ihb hP.r hQ.r (fun w => hd _) hc.2
    cases e : P [] with
    | false =>
      cases eq : Q [] with
      | false =>
        have ha := iha hP.l hQ.l (fun w => hd _) hc.1
        rw [mark_no eq, dev_no e, res_no e, eq, if_neg Bool.false_ne_true, pways, isB_no ha.2, if_neg Bool.false_ne_true, ha.1, hb.1]
        exact ⟨rfl, full_ap ha.2⟩
      | true =>
        rcases hQ.cases eq with ⟨x, b', q⟩ | ⟨x, y, b', q⟩
        · cases q
          have hx := ih1 _ _ rfl hP.l.r hQ.l.r (fun w => hd _) hc.1.2
          rw [mark_K eq, dev_no e, dev_no hP.l.x1, dev_lf, res_no e, eq, if_pos rfl, pways, isB_K, if_pos rfl, pB_x1, hb.1, hx.1, res_no hP.l.x1, hQ.l.x1, if_neg Bool.false_ne_true, res_lf]
          exact ⟨rfl, bk_full _ _⟩
        · cases q
          have hx := (ih2 _ _ _ rfl).1 hP.l.l.r hQ.l.l.r (fun w => hd _) hc.1.1.2
          have hy := (ih2 _ _ _ rfl).2 hP.l.r hQ.l.r (fun w => hd _) hc.1.2
          have n1 := hP.l.no (deed_2S x y)
          have n2 := hQ.l.no (deed_2S x y)
          rw [mark_S eq, dev_no e, dev_no n1, dev_no hP.l.l.x1, dev_lf, res_no e, eq, if_pos rfl, pways, isB_S, if_pos rfl, pB_x2, hb.1, hx.1, hy.1, res_no n1, n2, if_neg Bool.false_ne_true, res_no hP.l.l.x1, hQ.l.l.x1, if_neg Bool.false_ne_true, res_lf]
          exact ⟨by simp, bs_full _ _ _⟩
    | true =>
      have eq : Q [] = false := by have := hd []; rw [e, Bool.true_and] at this; exact this
      rcases hP.cases e with ⟨x, b', q⟩ | ⟨x, y, b', q⟩
      · cases q
        have hx := ih1 _ _ rfl hP.l.r hQ.l.r (fun w => hd _) hc.1.2
        rw [mark_no eq, mark_x1 hQ.l, dev_K e, res_K e]
        exact hx
      · cases q
        have hx := (ih2 _ _ _ rfl).1 hP.l.l.r hQ.l.l.r (fun w => hd _) hc.1.1.2
        have hy := (ih2 _ _ _ rfl).2 hP.l.r hQ.l.r (fun w => hd _) hc.1.2
        rw [mark_no eq, mark_x2 hQ.l, dev_S e, res_S e, pways, isB_no (full_ap hx.2), if_neg Bool.false_ne_true, pways, isB_no hx.2, if_neg Bool.false_ne_true, pways, isB_no hy.2, if_neg Bool.false_ne_true, hx.1, hy.1, hb.1]
        exact ⟨rfl, full_ap (full_ap hx.2)⟩
end Tm
end CH
namespace CH
namespace Tm
theorem part_dp : ∀ (t : Tm) (w : Wy) (u : Tm), t.part w = some u → u.dp ≤ t.dp
  | t, [], u, h => by rw [part_nil] at h; cases h; exact Nat.le_refl _
  | ap a b, 0 :: w, u, h => by have := part_dp a w u h; simp [dp]; omega
  | ap a b, 1 :: w, u, h => by have := part_dp b w u h; simp [dp]; omega
  | lf s, _ :: _, u, h => by simp [part] at h
  | ap a b, (n + 2) :: w, u, h => by simp [part] at h
end Tm
end CH

/-! T 5: marks one by one; how big it gets. -/
namespace CH
open PySem
namespace Tm
theorem val_mark (t : Tm) : ∀ {P Q : Wy → Bool}, t.val P → t.val Q → (∀ w, (P w && Q w) = false) → (mark t Q).val P := by
  induction t using val_rec with
  | hl s => intro P Q hP hQ hd; rw [mark_lf]; exact hP
  | ha a b iha ihb ih1 ih2 =>
    intro P Q hP hQ hd
    have hb := ihb hP.r hQ.r (fun w => hd _)
    have hnil : ∀ {c : Tm}, (Q [] = false → c.deed ≠ 0 ∨ P [] = false) → (Q [] = true → P [] = false) := fun _ e => by
      have := hd []; rw [e, Bool.and_true] at this; exact this
    cases eq : Q [] with
    | false =>
      have ha := iha hP.l hQ.l (fun w => hd _)
      rw [mark_no eq]
      intro w hw
      match w, hw with
      | [], hw =>
        rw [red_nil]
        rcases hP.cases hw with ⟨x, b', q⟩ | ⟨x, y, b', q⟩
        · cases q
          rw [mark_x1 hQ.l]; simp [deed]
        · cases q
          have : ¬ ("S" : Str) = "K" := by decide +kernel
          rw [mark_x2 hQ.l]; simp [deed]
      | 0 :: w, hw => exact red_0.mpr (ha w hw)
      | 1 :: w, hw => exact red_1.mpr (hb w hw)
      | (n + 2) :: w, hw => exact absurd (hP _ hw) red_2
    | true =>
      have e : P [] = false := hnil (c := .lf "K") (fun z => by rw [eq] at z; cases z) eq
      rcases hQ.cases eq with ⟨x, b', q⟩ | ⟨x, y, b', q⟩
      · cases q
        have hx := ih1 _ _ rfl hP.l.r hQ.l.r (fun w => hd _)
        rw [mark_K eq]
        intro w hw
        match w, hw with
        | [], hw => rw [e] at hw; cases hw
        | [0], hw => rw [hP.l.x1] at hw; cases hw
        | 0 :: 0 :: w, hw => exact absurd (red_0.mp (red_0.mp (hP _ hw))) red_lf
        | 0 :: 1 :: w, hw => exact red_0.mpr (red_1.mpr (hx w hw))
        | 0 :: (n + 2) :: w, hw => exact absurd (red_0.mp (hP _ hw)) red_2
        | 1 :: w, hw => exact red_1.mpr (hb w hw)
        | (n + 2) :: w, hw => exact absurd (hP _ hw) red_2
      · cases q
        have hx := (ih2 _ _ _ rfl).1 hP.l.l.r hQ.l.l.r (fun w => hd _)
        have hy := (ih2 _ _ _ rfl).2 hP.l.r hQ.l.r (fun w => hd _)
        have n1 := hP.l.no (deed_2S x y)
        rw [mark_S eq]
        intro w hw
        match w, hw with
        | [], hw => rw [e] at hw; cases hw
        | [0], hw => rw [n1] at hw; cases hw
        | [0, 0], hw => rw [hP.l.l.x1] at hw; cases hw
        | 0 :: 0 :: 0 :: w, hw => exact absurd (red_0.mp (red_0.mp (red_0.mp (hP _ hw)))) red_lf
        | 0 :: 0 :: 1 :: w, hw => exact red_0.mpr (red_0.mpr (red_1.mpr (hx w hw)))
        | 0 :: 0 :: (n + 2) :: w, hw => exact absurd (red_0.mp (red_0.mp (hP _ hw))) red_2
        | 0 :: 1 :: w, hw => exact red_0.mpr (red_1.mpr (hy w hw))
        | 0 :: (n + 2) :: w, hw => exact absurd (red_0.mp (hP _ hw)) red_2
        | 1 :: w, hw => exact red_1.mpr (hb w hw)
        | (n + 2) :: w, hw => exact absurd (hP _ hw) red_2
theorem mark_congr (t : Tm) {P Q : Wy → Bool} (h : ∀ w, P w = Q w) : mark t P = mark t Q := by rw [show P = Q from funext h]
theorem mark_none : ∀ (t : Tm) {P : Wy → Bool}, (∀ w, P w = false) → mark t P = t
  | lf s, P, h => mark_lf s P
  | ap a b, P, h => by rw [mark_no (h _), mark_none a fun w => h _, mark_none b fun w => h _]
def eqW (w v : Wy) : Bool := decide (v = w)
/-- the head's letter of the step at w marked -/
def bangAt (t : Tm) (w : Wy) : Tm := match t.part w with
  | some u => match u.part (List.replicate (deedL "K" "S" u) 0) with
    | some (lf s) => t.put (w ++ List.replicate (deedL "K" "S" u) 0) (lf (bang s))
    | _ => t
  | none => t
theorem bangAt_0 (a b : Tm) (w : Wy) : (ap a b).bangAt (0 :: w) = ap (a.bangAt w) b := by
  unfold bangAt
  rw [show (ap a b).part (0 :: w) = a.part w by simp [part]]
  cases a.part w with
  | none => rfl
  | some u =>
    dsimp only
    cases u.part (List.replicate (deedL "K" "S" u) 0) with
    | none => rfl
    | some v => cases v <;> simp [put]
theorem bangAt_1 (a b : Tm) (w : Wy) : (ap a b).bangAt (1 :: w) = ap a (b.bangAt w) := by
  unfold bangAt
  rw [show (ap a b).part (1 :: w) = b.part w by simp [part]]
  cases b.part w with
  | none => rfl
  | some u =>
    dsimp only
    cases u.part (List.replicate (deedL "K" "S" u) 0) with
    | none => rfl
    | some v => cases v <;> simp [put]
theorem bangAt_K (x b : Tm) : (ap (ap (lf "K") x) b).bangAt [] = ap (ap (lf (bang "K")) x) b := by
  have e : deedL "K" "S" (ap (ap (lf "K") x) b) = 2 := by simp [deedL, hd]
  unfold bangAt
  rw [part_nil]
  dsimp only
  rw [e]
  simp [List.replicate, part, put]
theorem bangAt_S (x y b : Tm) : (ap (ap (ap (lf "S") x) y) b).bangAt [] = ap (ap (ap (lf (bang "S")) x) y) b := by
  have e : deedL "K" "S" (ap (ap (ap (lf "S") x) y) b) = 3 := by simp [deedL, hd]
  unfold bangAt
  rw [part_nil]
  dsimp only
  rw [e]
  simp [List.replicate, part, put]
/-- one more mark -/
theorem mark_more (t : Tm) : ∀ {Q : Wy → Bool} {w : Wy}, t.val Q → t.red w → Q w = false → (mark t Q).bangAt w = mark t fun v => Q v || eqW w v := by
  induction t using val_rec with
  | hl s => intro Q w hQ hw; exact absurd hw red_lf
  | ha a b iha ihb ih1 ih2 =>
    intro Q w hQ hw hq
    have ez : ∀ (n : Nat) (w v : Wy), eqW (n :: w) (n :: v) = eqW w v := fun n w v => by simp [eqW]
    have en : ∀ (n m : Nat) (w v : Wy), n ≠ m → eqW (n :: w) (m :: v) = false := fun n m w v h => by simp [eqW]; intro z; exact absurd z.symm h
    have e0 : ∀ (n : Nat) (w : Wy), eqW (n :: w) [] = false := fun n w => by simp [eqW]
    have e1 : ∀ (n : Nat) (w : Wy), eqW [] (n :: w) = false := fun n w => by simp [eqW]
    match w, hw, hq with
    | [], hw, hq =>
      rcases deed_cases (red_nil.mp hw) with ⟨x, b', q⟩ | ⟨x, y, b', q⟩
      · cases q
        rw [mark_no hq, mark_x1 hQ.l, bangAt_K, mark_K (by simp [eqW])]
        rw [mark_congr x fun w => (by rw [e1, Bool.or_false] : (Q (0 :: 1 :: w) || eqW [] (0 :: 1 :: w)) = Q (0 :: 1 :: w)), mark_congr b fun w => (by rw [e1, Bool.or_false] : (Q (1 :: w) || eqW [] (1 :: w)) = Q (1 :: w))]
      · cases q
        rw [mark_no hq, mark_x2 hQ.l, bangAt_S, mark_S (by simp [eqW])]
        rw [mark_congr x fun w => (by rw [e1, Bool.or_false] : (Q (0 :: 0 :: 1 :: w) || eqW [] (0 :: 0 :: 1 :: w)) = Q (0 :: 0 :: 1 :: w)), mark_congr y fun w => (by rw [e1, Bool.or_false] : (Q (0 :: 1 :: w) || eqW [] (0 :: 1 :: w)) = Q (0 :: 1 :: w)),
          mark_congr b fun w => (by rw [e1, Bool.or_false] : (Q (1 :: w) || eqW [] (1 :: w)) = Q (1 :: w))]
    | 1 :: w, hw, hq =>
      have hb := ihb hQ.r (red_1.mp hw) hq
      cases eq : Q [] with
      | false =>
        rw [mark_no eq, bangAt_1, hb, mark_no (by rw [eq, e0]; rfl)]
        rw [mark_congr a fun v => (by rw [en _ _ _ _ (by decide), Bool.or_false] : (Q (0 :: v) || eqW (1 :: w) (0 :: v)) = Q (0 :: v)), mark_congr b fun v => (by rw [ez] : (Q (1 :: v) || eqW (1 :: w) (1 :: v)) = (Q (1 :: v) || eqW w v))]
      | true =>
        rcases hQ.cases eq with ⟨x, b', q⟩ | ⟨x, y, b', q⟩
        · cases q
          rw [mark_K eq, bangAt_1, hb, mark_K (by rw [eq, e0]; rfl)]
          rw [mark_congr x fun v => (by rw [en _ _ _ _ (by decide), Bool.or_false] : (Q (0 :: 1 :: v) || eqW (1 :: w) (0 :: 1 :: v)) = Q (0 :: 1 :: v)), mark_congr b fun v => (by rw [ez] : (Q (1 :: v) || eqW (1 :: w) (1 :: v)) = (Q (1 :: v) || eqW w v))]
        · cases q
          rw [mark_S eq, bangAt_1, hb, mark_S (by rw [eq, e0]; rfl)]
          rw [mark_congr x fun v => (by rw [en _ _ _ _ (by decide), Bool.or_false] : (Q (0 :: 0 :: 1 :: v) || eqW (1 :: w) (0 :: 0 :: 1 :: v)) = Q (0 :: 0 :: 1 :: v)), mark_congr y fun v => (by rw [en _ _ _ _ (by decide), Bool.or_false] : (Q (0 :: 1 :: v) || eqW (1 :: w) (0 :: 1 :: v)) = Q (0 :: 1 :: v)),
            mark_congr b fun v => (by rw [ez] : (Q (1 :: v) || eqW (1 :: w) (1 :: v)) = (Q (1 :: v) || eqW w v))]
    | 0 :: w, hw, hq =>
      cases eq : Q [] with
      | false =>
        have ha := iha hQ.l (red_0.mp hw) hq
        rw [mark_no eq, bangAt_0, ha, mark_no (by rw [eq, e0]; rfl)]
        rw [mark_congr b fun v => (by rw [en _ _ _ _ (by decide), Bool.or_false] : (Q (1 :: v) || eqW (0 :: w) (1 :: v)) = Q (1 :: v)), mark_congr a fun v => (by rw [ez] : (Q (0 :: v) || eqW (0 :: w) (0 :: v)) = (Q (0 :: v) || eqW w v))]
      | true =>
        rcases hQ.cases eq with ⟨x, b', q⟩ | ⟨x, y, b', q⟩
        · cases q
          match w, hw, hq with
          | [], hw, hq => exact absurd (red_nil.mp (red_0.mp hw)) (by simp [deed])
          | 0 :: w, hw, hq => exact absurd (red_0.mp (red_0.mp hw)) red_lf
          | (n + 2) :: w, hw, hq => exact absurd (red_0.mp hw) red_2
          | 1 :: w, hw, hq =>
            have hx := ih1 _ _ rfl hQ.l.r (red_1.mp (red_0.mp hw)) hq
            rw [mark_K eq, bangAt_0, bangAt_1, hx, mark_K (by rw [eq, e0]; rfl)]
            rw [mark_congr b fun v => (by rw [en _ _ _ _ (by decide), Bool.or_false] : (Q (1 :: v) || eqW (0 :: 1 :: w) (1 :: v)) = Q (1 :: v)), mark_congr x fun v => (by rw [ez, ez] : (Q (0 :: 1 :: v) || eqW (0 :: 1 :: w) (0 :: 1 :: v)) = (Q (0 :: 1 :: v) || eqW w v))]
        · cases q
          match w, hw, hq with
          | [], hw, hq => exact absurd (red_nil.mp (red_0.mp hw)) (by rw [deed_2S]; exact fun z => z rfl)
          | (n + 2) :: w, hw, hq => exact absurd (red_0.mp hw) red_2
          | 1 :: w, hw, hq =>
            have hy := (ih2 _ _ _ rfl).2 hQ.l.r (red_1.mp (red_0.mp hw)) hq
            rw [mark_S eq, bangAt_0, bangAt_1, hy, mark_S (by rw [eq, e0]; rfl)]
            rw [mark_congr b fun v => (by rw [en _ _ _ _ (by decide), Bool.or_false] : (Q (1 :: v) || eqW (0 :: 1 :: w) (1 :: v)) = Q (1 :: v)), mark_congr y fun v => (by rw [ez, ez] : (Q (0 :: 1 :: v) || eqW (0 :: 1 :: w) (0 :: 1 :: v)) = (Q (0 :: 1 :: v) || eqW w v)),
              mark_congr x fun v => (by rw [ez, en _ _ _ _ (by decide), Bool.or_false] : (Q (0 :: 0 :: 1 :: v) || eqW (0 :: 1 :: w) (0 :: 0 :: 1 :: v)) = Q (0 :: 0 :: 1 :: v))]
          | [0], hw, hq => exact absurd (red_nil.mp (red_0.mp (red_0.mp hw))) (by simp [deed])
          | 0 :: 0 :: w, hw, hq => exact absurd (red_0.mp (red_0.mp (red_0.mp hw))) red_lf
          | 0 :: (n + 2) :: w, hw, hq => exact absurd (red_0.mp (red_0.mp hw)) red_2
          | 0 :: 1 :: w, hw, hq =>
            have hx := (ih2 _ _ _ rfl).1 hQ.l.l.r (red_1.mp (red_0.mp (red_0.mp hw))) hq
            rw [mark_S eq, bangAt_0, bangAt_0, bangAt_1, hx, mark_S (by rw [eq, e0]; rfl)]
            rw [mark_congr b fun v => (by rw [en _ _ _ _ (by decide), Bool.or_false] : (Q (1 :: v) || eqW (0 :: 0 :: 1 :: w) (1 :: v)) = Q (1 :: v)), mark_congr x fun v => (by rw [ez, ez, ez] : (Q (0 :: 0 :: 1 :: v) || eqW (0 :: 0 :: 1 :: w) (0 :: 0 :: 1 :: v)) = (Q (0 :: 0 :: 1 :: v) || eqW w v)),
              mark_congr y fun v => (by rw [ez, en _ _ _ _ (by decide), Bool.or_false] : (Q (0 :: 1 :: v) || eqW (0 :: 0 :: 1 :: w) (0 :: 1 :: v)) = Q (0 :: 1 :: v))]
    | (n + 2) :: w, hw, hq => exact absurd hw red_2
/-- several marks, in any order -/
theorem marks_fold (t : Tm) : ∀ (l : List Wy) {Q : Wy → Bool}, t.val Q → (∀ w, w ∈ l → t.red w ∧ Q w = false) → l.Nodup → l.foldl bangAt (mark t Q) = mark t fun v => Q v || isIn l v
  | [], Q, hQ, hl, hn => (mark_congr t fun w => by rw [isIn_e, Bool.or_false]).symm
  | w :: l, Q, hQ, hl, hn => by
    obtain ⟨h1, h2⟩ := hl w (List.mem_cons_self ..)
    obtain ⟨h3, h4⟩ := List.nodup_cons.mp hn
    rw [List.foldl_cons, mark_more t hQ h1 h2, marks_fold t l (hQ.or fun v hv => by simp [eqW] at hv; rw [hv]; exact h1) (fun v hv => ⟨(hl v (List.mem_cons_of_mem _ hv)).1, by
      have e : eqW w v = false := by simp [eqW]; rintro rfl; exact h3 hv
      rw [(hl v (List.mem_cons_of_mem _ hv)).2, e]; rfl⟩) h4]
    refine mark_congr t fun v => ?_
    have : isIn (w :: l) v = (eqW w v || isIn l v) := isIn_eq (by simp [eqW, isIn])
    rw [this, Bool.or_assoc]
/-! ### how big -/
theorem dev_dp (t : Tm) : ∀ {P : Wy → Bool}, t.val P → (dev t P).dp ≤ 2 * t.dp := by
  induction t using val_rec with
  | hl s => intro P h; rw [dev_lf]; exact Nat.le_mul_of_pos_left _ (by decide)
  | ha a b iha ihb ih1 ih2 =>
    intro P h
    have hb := ihb h.r
    cases e : P [] with
    | false =>
      have ha := iha h.l
      rw [dev_no e]
      simp [dp]; omega
    | true =>
      rcases h.cases e with ⟨x, b', q⟩ | ⟨x, y, b', q⟩
      · cases q
        have := ih1 _ _ rfl h.l.r
        rw [dev_K e]
        simp [dp]; omega
      · cases q
        have h1 := (ih2 _ _ _ rfl).1 h.l.l.r
        have h2 := (ih2 _ _ _ rfl).2 h.l.r
        rw [dev_S e]
        simp [dp]; omega
/-- how many leaves may come of a term of that depth -/
def gro : Nat → Nat
  | 0 => 1
  | 1 => 2
  | 2 => 4
  | n + 3 => gro n + gro (n + 1) + 2 * gro (n + 2)
theorem gro_pos : ∀ n, 1 ≤ gro n
  | 0 => Nat.le_refl _
  | 1 => by decide
  | 2 => by decide
  | n + 3 => by have := gro_pos n; rw [gro]; omega
theorem gro_step : ∀ n, 2 * gro n ≤ gro (n + 1)
  | 0 => by decide
  | 1 => by decide
  | n + 2 => by rw [gro]; omega
theorem gro_mono {n m : Nat} (h : n ≤ m) : gro n ≤ gro m := by
  induction h with
  | refl => exact Nat.le_refl _
  | @step m _ ih => exact Nat.le_trans ih (by have := gro_step m; have := gro_pos m; show gro m ≤ gro (m + 1); omega)
theorem dev_lv (t : Tm) : ∀ {P : Wy → Bool}, t.val P → (dev t P).lv ≤ gro t.dp := by
  induction t using val_rec with
  | hl s => intro P h; rw [dev_lf]; exact Nat.le_refl _
  | ha a b iha ihb ih1 ih2 =>
    intro P h
    have hb := ihb h.r
    cases e : P [] with
    | false =>
      have ha := iha h.l
      rw [dev_no e]
      have h1 := gro_mono (show a.dp ≤ max a.dp b.dp by omega)
      have h2 := gro_mono (show b.dp ≤ max a.dp b.dp by omega)
      have h3 := gro_step (max a.dp b.dp)
      show (dev a _).lv + (dev b _).lv ≤ gro (max a.dp b.dp + 1)
      omega
    | true =>
      rcases h.cases e with ⟨x, b', q⟩ | ⟨x, y, b', q⟩
      · cases q
        have h1 := ih1 _ _ rfl h.l.r
        rw [dev_K e]
        exact Nat.le_trans h1 (gro_mono (by simp [dp]; omega))
      · cases q
        have h1 := (ih2 _ _ _ rfl).1 h.l.l.r
        have h2 := (ih2 _ _ _ rfl).2 h.l.r
        rw [dev_S e]
        have hd : (ap (ap (ap (lf "S") x) y) b).dp = max (max (x.dp + 2) (y.dp + 1)) b.dp + 1 := by simp [dp]; omega
        obtain ⟨n, hn⟩ : ∃ n, max (max (x.dp + 2) (y.dp + 1)) b.dp = n + 2 := ⟨max (max (x.dp + 2) (y.dp + 1)) b.dp - 2, by omega⟩
        rw [hd, hn, gro]
        have g1 := gro_mono (show x.dp ≤ n by omega)
        have g2 := gro_mono (show y.dp ≤ n + 1 by omega)
        have g3 := gro_mono (show b.dp ≤ n + 2 by omega)
        show (dev x _).lv + (dev b _).lv + ((dev y _).lv + (dev b _).lv) ≤ _
        omega
end Tm
end CH
namespace CH
namespace Tm
/-- on the way: not deeper than twice as deep -/
theorem runs_dp (t : Tm) {P : Wy → Bool} (h : t.val P) (n : Nat) (u : Tm) (hr : t.runs ((desc t P).take n) = some u) : u.dp ≤ 2 * t.dp := by
  induction t using val_rec generalizing P n u with
  | hl s =>
    simp [desc, runs] at hr
    rw [← hr]; simp [dp]
  | ha a b iha ihb ih1 ih2 =>
    have fullb := runs_desc b h.r
    have fulla := runs_desc a h.l
    have key : ∀ (A B : List Wy) (c : List Wy), (∀ m v, b.runs (B.take m) = some v → v.dp ≤ 2 * b.dp) → (∀ m v, a.runs (A.take m) = some v → v.dp ≤ 2 * a.dp) → b.runs B = some (dev b fun w => P (1 :: w)) → a.runs A = some (dev a fun w => P (0 :: w)) → c.length ≤ 1 →
        (ap (dev a fun w => P (0 :: w)) (dev b fun w => P (1 :: w))).runs c = some (dev (ap a b) P) → ∀ n u, (ap a b).runs ((B.map (1 :: ·) ++ (A.map (0 :: ·) ++ c)).take n) = some u → u.dp ≤ 2 * (ap a b).dp := by
      intro A B c hB hA rB rA hc hc2 n u hr
      have da : a.dp ≤ 2 * a.dp := by omega
      rw [List.take_append, runs_app, ← List.map_take, runs_1] at hr
      cases e1 : b.runs (B.take n) with
      | none => rw [e1] at hr; cases hr
      | some v =>
        rw [e1, Option.map_some, Option.bind_some] at hr
        have hv := hB n v e1
        rw [List.take_append, runs_app, ← List.map_take, runs_0] at hr
        cases e2 : a.runs (A.take (n - (B.map (1 :: ·)).length)) with
        | none => rw [e2] at hr; cases hr
        | some x =>
          rw [e2, Option.map_some, Option.bind_some] at hr
          have hx := hA _ x e2
          cases hq : c.take (n - (B.map (1 :: ·)).length - (A.map (0 :: ·)).length) with
          | nil =>
            rw [hq] at hr
            cases hr
            simp [dp]; omega
          | cons w ws =>
            have hlen : 0 < n - (B.map (1 :: ·)).length - (A.map (0 :: ·)).length := by
              rcases Nat.eq_zero_or_pos (n - (B.map (1 :: ·)).length - (A.map (0 :: ·)).length) with z | z
              · rw [z] at hq; cases hq
              · exact z
            rw [List.length_map, List.length_map] at hlen
            rw [List.take_of_length_le (by omega)] at e1
            rw [List.take_of_length_le (by rw [List.length_map]; omega)] at e2
            rw [rB] at e1
            rw [rA] at e2
            cases e1
            cases e2
            rw [List.take_of_length_le (by rw [List.length_map, List.length_map]; omega), hc2] at hr
            cases hr
            exact dev_dp _ h
    have hroot : (ap (dev a fun w => P (0 :: w)) (dev b fun w => P (1 :: w))).runs (if P [] = true then [[]] else []) = some (dev (ap a b) P) := by
      have z := runs_desc (ap a b) h
      rw [desc, runs_app, runs_1, fullb, Option.map_some, Option.bind_some, runs_app, runs_0, fulla, Option.map_some, Option.bind_some] at z
      exact z
    exact key _ _ _ (fun m v hm => ihb h.r m v hm) (fun m v hm => iha h.l m v hm) fullb fulla (by split <;> simp) hroot n u hr
end Tm
end CH

/-! T 6: equality of data. -/
namespace CH
open PySem
theorem dEq_self {d : D} (hp : d.plain = true) (hd : d.depth ≤ 400) : dEq d d = some (.bool true) := by
  rw [dEq_of _ _ (by omega), PySem.SeqAt.eqv_refl_plain d hp]
theorem dNe_self {d : D} (hp : d.plain = true) (hd : d.depth ≤ 400) : dNe d d = some (.bool false) := by
  rw [dNe_of _ _ (by omega), PySem.SeqAt.eqv_refl_plain d hp]; rfl
theorem plainAll_map {α : Type} {f : α → D} : ∀ {l : List α}, (∀ x ∈ l, (f x).plain = true) → PyData.plainAll (l.map f) = true
  | [], _ => rfl
  | a :: l, h => by rw [List.map_cons, PyData.plainAll, h a (List.mem_cons_self ..), plainAll_map fun x hx => h x (List.mem_cons_of_mem _ hx)]; rfl
theorem depthAll_map {α : Type} {f : α → D} {n : Nat} : ∀ {l : List α}, (∀ x ∈ l, (f x).depth ≤ n) → PyData.depthAll (l.map f) ≤ n
  | [], _ => by simp [PyData.depthAll]
  | a :: l, h => by
    have h1 := h a (List.mem_cons_self ..)
    have h2 := depthAll_map (l := l) fun x hx => h x (List.mem_cons_of_mem _ hx)
    rw [List.map_cons, PyData.depthAll]; omega
theorem nD_plain (w : List Nat) : PyData.plainAll (nD w) = true := plainAll_map fun _ _ => rfl
theorem nD_depth (w : List Nat) : PyData.depthAll (nD w) = 0 := Nat.le_zero.mp (depthAll_map fun _ _ => by simp [PyData.depth])
theorem wD_plain (w : Wy) : (wD w).plain = true := by show PyData.plainAll (nD w) = true; exact nD_plain w
theorem wD_depth (w : Wy) : (wD w).depth = 1 := by simp [wD, PyData.depth, nD_depth]
theorem wsD_plain (l : List Wy) : (wsD l).plain = true := by show PyData.plainAll (l.map wD) = true; exact plainAll_map fun w _ => wD_plain w
theorem wsD_depth (l : List Wy) : (wsD l).depth ≤ 2 := by
  have : PyData.depthAll (l.map wD) ≤ 1 := depthAll_map fun w _ => Nat.le_of_eq (wD_depth w)
  simp [wsD, PyData.depth]; omega
theorem Tm.d_plain : ∀ t : Tm, t.d.plain = true
  | .lf s => rfl
  | .ap a b => by
    show (a.d.plain && (b.d.plain && true)) = true
    rw [d_plain a, d_plain b]; rfl
theorem tw_plain (t : Tm) (l : List Wy) : (PyData.tuple [t.d, wsD l]).plain = true := by
  show (t.d.plain && ((wsD l).plain && true)) = true
  rw [t.d_plain, wsD_plain]; rfl
theorem tw_depth (t : Tm) (l : List Wy) : (PyData.tuple [t.d, wsD l]).depth ≤ max t.dp 2 + 1 := by
  have := wsD_depth l
  simp [PyData.depth, PyData.depthAll, Tm.d_depth]; omega
theorem eqv_nD : ∀ w v : List Nat, PyData.eqvAll (nD w) (nD v) = decide (w = v)
  | [], [] => by simp [nD, PyData.eqvAll]
  | [], b :: s => by simp [nD, PyData.eqvAll]
  | a :: r, [] => by simp [nD, PyData.eqvAll]
  | a :: r, b :: s => by
    have ih := eqv_nD r s
    show (PyData.eqv (.int (a : Int)) (.int (b : Int)) && PyData.eqvAll (nD r) (nD s)) = _
    rw [eqv_int, ih]
    by_cases h : a = b
    · simp [h]
    · have : ¬ (a : Int) = (b : Int) := by omega
      simp [h, this]
theorem eqv_wD (w v : Wy) : PyData.eqv (wD w) (wD v) = decide (w = v) := eqv_nD w v
theorem any_wD (w : Wy) (l : List Wy) : ((l.map wD).any fun y => PyData.eqv y (wD w)) = isIn l w := by
  rw [List.any_map]
  refine (isIn_eq ?_).symm
  rw [List.any_eq_true]
  constructor
  · intro h; exact ⟨w, h, by simp [eqv_wD]⟩
  · rintro ⟨v, h1, h2⟩
    simp [eqv_wD] at h2
    rw [← h2]; exact h1
theorem inB_wD (w : Wy) (l : List Wy) : inB (wD w) (.list (l.map wD)) = some (isIn l w) := by
  show (if min (PyData.depthAll (l.map wD)) (wD w).depth ≤ 400 then some ((l.map wD).any fun y => PyData.eqv y (wD w)) else none) = _
  rw [if_pos (by rw [wD_depth]; omega), any_wD]
theorem dIn_wD (w : Wy) (l : List Wy) : dIn (wD w) (.list (l.map wD)) = some (.bool (isIn l w)) := by
  unfold dIn
  rw [inB_wD]; rfl
theorem dNotIn_wD (w : Wy) (l : List Wy) : dNotIn (wD w) (.list (l.map wD)) = some (.bool (!isIn l w)) := by
  unfold dNotIn
  rw [inB_wD]; rfl
theorem dEq_Tm {t u : Tm} (h : min t.dp u.dp ≤ 400) : dEq t.d u.d = some (.bool (decide (t = u))) := by rw [dEq_of _ _ (by rw [Tm.d_depth, Tm.d_depth]; exact h), Tm.eqv_d]
theorem dNe_Tm {t u : Tm} (h : min t.dp u.dp ≤ 400) : dNe t.d u.d = some (.bool (!decide (t = u))) := by rw [dNe_of _ _ (by rw [Tm.d_depth, Tm.d_depth]; exact h), Tm.eqv_d]
theorem wsD_nil (l : List Wy) : dNe (wsD l) (.list []) = some (.bool (!l.isEmpty)) := by
  rw [dNe_of _ _ (by have := wsD_depth l; omega)]
  cases l with
  | nil => simp [wsD, PyData.eqv, PyData.eqvAll]
  | cons a r => simp [wsD, PyData.eqv, PyData.eqvAll]
theorem at_neg1 (l : List D) (x : D) : L2.atI (l ++ [x]) (-1) = some x := by
  unfold L2.atI
  have : L2.ixN (l ++ [x]).length (-1) = some l.length := by simp [L2.ixN]; omega
  rw [this]; simp
namespace Tm
theorem walk_step {t u : Tm} {w : Wy} {r : List Wy} (h : t.red w) (hl : (t.step w).lv ≤ 200) : t.walk (w :: r) = (t.step w).walk r := by
  obtain ⟨v, h1, h2⟩ := h
  rw [walk, h1]
  dsimp only
  rw [if_pos ⟨h2, hl⟩]
theorem walk_snoc : ∀ (r : List Wy) (t u : Tm) (w : Wy), t.walk r = some u → u.red w → (u.step w).lv ≤ 200 → t.walk (r ++ [w]) = some (u.step w)
  | [], t, u, w, h, hr, hl => by cases h; rw [List.nil_append, walk_step (u := t) hr hl]; rfl
  | v :: r, t, u, w, h, hr, hl => by
    rw [walk] at h
    rw [List.cons_append, walk]
    cases hp : t.part v with
    | none => rw [hp] at h; cases h
    | some x =>
      rw [hp] at h
      dsimp only at h ⊢
      split at h
      · rename_i hc
        rw [if_pos hc]
        exact walk_snoc r _ u w h hr hl
      · cases h
theorem whi_le : ∀ (r : List Wy) (t u : Tm), t.walk r = some u → t.whi r ≤ t.dp + r.length
  | [], t, u, h => Nat.le_refl _
  | w :: r, t, u, h => by
    rw [walk] at h
    cases hp : t.part w with
    | none => rw [hp] at h; cases h
    | some x =>
      rw [hp] at h
      dsimp only at h
      split at h
      · have h1 := whi_le r _ u h
        have h2 := t.step_dp w
        have h3 := part_len t w x hp
        rw [whi, List.length_cons]; omega
      · cases h
where part_len : ∀ (t : Tm) (w : Wy) (u : Tm), t.part w = some u → w.length ≤ t.dp
  | t, [], u, h => Nat.zero_le _
  | ap a b, 0 :: w, u, h => by have := part_len a w u h; simp [dp]; omega
  | ap a b, 1 :: w, u, h => by have := part_len b w u h; simp [dp]; omega
  | lf s, _ :: _, u, h => by simp [part] at h
  | ap a b, (n + 2) :: w, u, h => by simp [part] at h
theorem red_len {t : Tm} {w : Wy} (h : t.red w) : w.length ≤ t.dp := by obtain ⟨u, h, _⟩ := h; exact whi_le.part_len t w u h
theorem walk_lv : ∀ (r : List Wy) (t u : Tm), t.walk r = some u → t.lv ≤ 200 → u.lv ≤ 200
  | [], t, u, h, hl => by cases h; exact hl
  | w :: r, t, u, h, hl => by
    rw [walk] at h
    cases hp : t.part w with
    | none => rw [hp] at h; cases h
    | some x =>
      rw [hp] at h
      dsimp only at h
      split at h
      · rename_i hc; exact walk_lv r _ u h hc.2
      · cases h
theorem walk_ok : ∀ (r : List Wy) (t u : Tm), t.walk r = some u → t.ok = true → u.ok = true
  | [], t, u, h, hl => by cases h; exact hl
  | w :: r, t, u, h, hl => by
    rw [walk] at h
    cases hp : t.part w with
    | none => rw [hp] at h; cases h
    | some x =>
      rw [hp] at h
      dsimp only at h
      split at h
      · exact walk_ok r _ u h (t.step_okk w hl)
      · cases h
theorem walk_dp (r : List Wy) (t u : Tm) (h : t.walk r = some u) : u.dp ≤ t.dp + r.length := by
  have : ∀ (r : List Wy) (t u : Tm), t.walk r = some u → u.dp ≤ t.dp + r.length := by
    intro r
    induction r with
    | nil => intro t u h; cases h; exact Nat.le_refl _
    | cons w r ih =>
      intro t u h
      rw [walk] at h
      cases hp : t.part w with
      | none => rw [hp] at h; cases h
      | some x =>
        rw [hp] at h
        dsimp only at h
        split at h
        · have := ih _ u h
          have := t.step_dp w
          rw [List.length_cons]; omega
        · cases h
  exact this r t u h
theorem step_lv_le (t : Tm) (w : Wy) : (t.step w).lv ≤ 2 * t.lv := by
  unfold step
  cases h : t.part w with
  | none => show t.lv ≤ 2 * t.lv; omega
  | some u =>
    have key : ∀ (w : Wy) (t u : Tm), t.part w = some u → (t.put w u.done).lv ≤ 2 * t.lv := by
      intro w
      induction w with
      | nil =>
        intro t u h
        rw [part_nil] at h
        cases h
        have : ∀ t : Tm, t.done.lv ≤ 2 * t.lv := by
          intro t
          unfold done
          split
          · simp [lv]; omega
          · simp [lv]; omega
          · omega
        have e : t.put [] t.done = t.done := by cases t <;> simp [put]
        rw [e]; exact this t
      | cons n w ih =>
        intro t u h
        match t, n, h with
        | lf s, n, h => simp [part] at h
        | ap a b, 0, h => have := ih a u h; have := b.lv_pos; simp [put, lv]; omega
        | ap a b, 1, h => have := ih b u h; have := a.lv_pos; simp [put, lv]; omega
        | ap a b, n + 2, h => simp [part] at h
    exact key w t u h
end Tm
end CH
namespace CH
namespace Tm
theorem play_len : ∀ (n : Nat) (t : Tm), (play n t).2.length ≤ n
  | 0, t => Nat.le_refl _
  | n + 1, t => by
    rw [play]
    cases t.ways with
    | nil => exact Nat.zero_le _
    | cons w ws =>
      dsimp only
      split
      · have := play_len n (t.step w); simp; exact this
      · exact Nat.zero_le _
end Tm
end CH

/-! T 7: slices; ways from a way on; lengths. -/
namespace CH
open PySem L2
theorem cut_take (xs : List D) (n : Nat) : cutD xs none (some (n : Int)) = xs.take n := by
  unfold cutD
  rw [HT.sIx_nat, HT.sIx_none, List.drop_zero, Nat.sub_zero]
  by_cases h : n ≤ xs.length
  · rw [Nat.min_eq_left h]
  · rw [Nat.min_eq_right (by omega), List.take_length, List.take_of_length_le (by omega)]
theorem cut_drop (xs : List D) (n : Nat) : cutD xs (some (n : Int)) none = xs.drop n := by
  unfold cutD
  rw [HT.sIx_nat, HT.sIx_none]
  by_cases h : n ≤ xs.length
  · rw [Nat.min_eq_left h, List.take_of_length_le (by rw [List.length_drop]; exact Nat.le_refl _)]
  · rw [Nat.min_eq_right (by omega), List.drop_length, List.drop_eq_nil_of_le (by omega), List.take_nil]
/-- the ways that go on from p, from there -/
def belowW (p : Wy) (l : List Wy) : List Wy := (l.filter fun w => decide (w.take p.length = p)).map fun w => w.drop p.length
theorem mem_below {p : Wy} {l : List Wy} {w : Wy} : w ∈ belowW p l ↔ p ++ w ∈ l := by
  unfold belowW
  rw [List.mem_map]
  constructor
  · rintro ⟨v, h, rfl⟩
    rw [List.mem_filter] at h
    have e := of_decide_eq_true h.2
    have : p ++ v.drop p.length = v := by
      have z := List.take_append_drop p.length v
      rw [e] at z
      exact z
    rw [this]; exact h.1
  · intro h
    exact ⟨p ++ w, by rw [List.mem_filter]; exact ⟨h, by simp⟩, by simp⟩
theorem isIn_below (p : Wy) (l : List Wy) (w : Wy) : isIn (belowW p l) w = isIn l (p ++ w) := isIn_eq (by rw [mem_below, isIn_iff])
theorem below_nodup {p : Wy} {l : List Wy} (h : l.Nodup) : (belowW p l).Nodup := by
  unfold belowW
  have key : ∀ l : List Wy, l.Nodup → (∀ w ∈ l, w.take p.length = p) → (l.map fun w => w.drop p.length).Nodup := by
    intro l
    induction l with
    | nil => intro _ _; exact .nil
    | cons a l ih =>
      intro h1 h2
      obtain ⟨h3, h4⟩ := List.nodup_cons.mp h1
      rw [List.map_cons, List.nodup_cons]
      refine ⟨fun hm => ?_, ih h4 fun w hw => h2 w (List.mem_cons_of_mem _ hw)⟩
      obtain ⟨b, hb, e⟩ := List.mem_map.mp hm
      refine h3 ?_
      have e1 := List.take_append_drop p.length a
      have e2 := List.take_append_drop p.length b
      rw [h2 a (List.mem_cons_self ..)] at e1
      rw [h2 b (List.mem_cons_of_mem _ hb), e] at e2
      rw [← e1, e2]; exact hb
  refine key _ (h.filter _) fun w hw => ?_
  rw [List.mem_filter] at hw
  exact of_decide_eq_true hw.2
theorem below_len (p : Wy) (l : List Wy) : (belowW p l).length ≤ l.length := by
  unfold belowW
  rw [List.length_map]
  exact List.length_filter_le ..
theorem isIn_nil_of {l : List Wy} (h : l = []) (w : Wy) : isIn l w = false := by rw [h]; rfl
namespace Tm
theorem res_none : ∀ (t : Tm) {P Q : Wy → Bool}, t.val P → (∀ w, Q w = false) → res t P Q = [] := by
  intro t
  induction t using val_rec with
  | hl s => intro P Q h hq; exact res_lf ..
  | ha a b iha ihb ih1 ih2 =>
    intro P Q h hq
    have hb := ihb h.r (fun w => hq (1 :: w))
    cases e : P [] with
    | false =>
      rw [res_no e, hq, if_neg Bool.false_ne_true, iha h.l (fun w => hq _), hb]; rfl
    | true =>
      rcases h.cases e with ⟨x, b', q⟩ | ⟨x, y, b', q⟩
      · cases q
        rw [res_K e]; exact ih1 _ _ rfl h.l.r fun w => hq _
      · cases q
        rw [res_S e, (ih2 _ _ _ rfl).1 h.l.l.r (fun w => hq _), (ih2 _ _ _ rfl).2 h.l.r (fun w => hq _), hb]; rfl
theorem res_len (t : Tm) : ∀ {P Q : Wy → Bool}, t.val P → (res t P Q).length + 1 ≤ (dev t P).lv := by
  induction t using val_rec with
  | hl s => intro P Q h; rw [res_lf, dev_lf]; exact Nat.le_refl _
  | ha a b iha ihb ih1 ih2 =>
    intro P Q h
    have hb := ihb (Q := fun w => Q (1 :: w)) h.r
    cases e : P [] with
    | false =>
      have ha := iha (Q := fun w => Q (0 :: w)) h.l
      rw [res_no e, dev_no e]
      simp only [List.length_append, List.length_map, lv]
      have : (if Q [] = true then [[]] else ([] : List Wy)).length ≤ 1 := by split <;> simp
      omega
    | true =>
      rcases h.cases e with ⟨x, b', q⟩ | ⟨x, y, b', q⟩
      · cases q
        rw [res_K e, dev_K e]
        exact ih1 _ _ rfl h.l.r
      · cases q
        have h1 := (ih2 _ _ _ rfl).1 (Q := fun w => Q (0 :: 0 :: 1 :: w)) h.l.l.r
        have h2 := (ih2 _ _ _ rfl).2 (Q := fun w => Q (0 :: 1 :: w)) h.l.r
        rw [res_S e, dev_S e]
        simp only [List.length_append, List.length_map, lv]
        omega
theorem res_congr (t : Tm) {P P' Q Q' : Wy → Bool} (h : ∀ w, P w = P' w) (k : ∀ w, Q w = Q' w) : res t P Q = res t P' Q' := by rw [show P = P' from funext h, show Q = Q' from funext k]
theorem val_congr {t : Tm} {P P' : Wy → Bool} (h : ∀ w, P w = P' w) (v : t.val P) : t.val P' := by rw [← show P = P' from funext h]; exact v
theorem val_in {t : Tm} {l : List Wy} (h : ∀ w ∈ l, t.red w) : t.val (isIn l) := fun w e => h w (isIn_iff.mp e)
theorem val_below {t : Tm} {l : List Wy} {p : Wy} {u : Tm} (hp : t.part p = some u) (h : t.val (isIn l)) : u.val (isIn (belowW p l)) := by
  intro w e
  rw [isIn_below] at e
  obtain ⟨v, h1, h2⟩ := h _ e
  refine ⟨v, ?_, h2⟩
  have key : ∀ (p : Wy) (t u : Tm), t.part p = some u → t.part (p ++ w) = u.part w := by
    intro p
    induction p with
    | nil => intro t u h; rw [part_nil] at h; cases h; rfl
    | cons n p ih =>
      intro t u h
      match t, n, h with
      | lf s, n, h => simp [part] at h
      | ap a b, 0, h => simpa [part] using ih a u h
      | ap a b, 1, h => simpa [part] using ih b u h
      | ap a b, n + 2, h => simp [part] at h
  rw [← key p t u hp]; exact h1
theorem res_wlen (t : Tm) : ∀ {P Q : Wy → Bool}, t.val P → t.val Q → ∀ w ∈ res t P Q, w.length ≤ (dev t P).dp := fun hP hQ w hw => red_len (res_val t hP hQ w (isIn_iff.mpr hw))
theorem res_nodup (t : Tm) : ∀ {P Q : Wy → Bool}, t.val P → (res t P Q).Nodup := by
  have inj : ∀ (n : Nat) (l : List Wy), l.Nodup → (l.map (n :: ·)).Nodup := fun n l h => by
    refine List.pairwise_map.mpr (h.imp fun {a b} hab z => hab ?_)
    exact (List.cons.inj z).2
  have dis : ∀ (l m : List Wy), l.Nodup → m.Nodup → (l.map (0 :: ·) ++ m.map (1 :: ·)).Nodup := fun l m h k => by
    refine List.nodup_append.mpr ⟨inj 0 l h, inj 1 m k, ?_⟩
    intro x hx y hy e
    obtain ⟨a, _, rfl⟩ := List.mem_map.mp hx
    obtain ⟨b, _, rfl⟩ := List.mem_map.mp hy
    simp at e
  induction t using val_rec with
  | hl s => intro P Q h; rw [res_lf]; exact .nil
  | ha a b iha ihb ih1 ih2 =>
    intro P Q h
    have hb := ihb (Q := fun w => Q (1 :: w)) h.r
    cases e : P [] with
    | false =>
      have ha := iha (Q := fun w => Q (0 :: w)) h.l
      rw [res_no e]
      refine List.nodup_append.mpr ⟨by split <;> simp, dis _ _ ha hb, ?_⟩
      intro x hx y hy e
      split at hx
      · rw [List.mem_singleton.mp hx] at e
        subst e
        simp at hy
      · cases hx
    | true =>
      rcases h.cases e with ⟨x, b', q⟩ | ⟨x, y, b', q⟩
      · cases q
        rw [res_K e]; exact ih1 _ _ rfl h.l.r
      · cases q
        rw [res_S e]
        exact dis _ _ (dis _ _ ((ih2 _ _ _ rfl).1 h.l.l.r) hb) (dis _ _ ((ih2 _ _ _ rfl).2 h.l.r) hb)
end Tm
end CH
namespace CH
open PySem
@[simp] theorem isN_none : isN .none = true := rfl
@[simp] theorem isN_str (s : Str) : isN (.str s) = false := rfl
@[simp] theorem isN_tup (l : List D) : isN (.tuple l) = false := rfl
@[simp] theorem isN_lst (l : List D) : isN (.list l) = false := rfl
@[simp] theorem isN_int (n : Int) : isN (.int n) = false := rfl
@[simp] theorem isN_bool (b : Bool) : isN (.bool b) = false := rfl
theorem nodup_take {α : Type} : ∀ {l : List α} {i : Nat} {w : α}, l.Nodup → l[i]? = some w → w ∉ l.take i
  | [], _, _, _, h, _ => by simp at h
  | a :: l, 0, _, _, _, hm => by simp at hm
  | a :: l, i + 1, w, hn, h, hm => by
    obtain ⟨h1, h2⟩ := List.nodup_cons.mp hn
    rw [List.take_succ_cons] at hm
    have h : l[i]? = some w := by simpa using h
    rcases List.mem_cons.mp hm with rfl | hm
    · exact h1 (List.mem_of_getElem? h)
    · exact nodup_take h2 h hm
end CH

/-! T 8: beginnings of rows; lists of ways. -/
namespace CH
open PySem
namespace Tm
theorem desc_take (t : Tm) {P : Wy → Bool} (h : t.val P) (n : Nat) : t.val (isIn ((desc t P).take n)) ∧ (desc t P).take n = desc t (isIn ((desc t P).take n)) := by
  have hv : t.val (isIn ((desc t P).take n)) := fun w hw => h w ((mem_desc t h w).mp (List.mem_of_mem_take (isIn_iff.mp hw)))
  refine ⟨hv, sorted_eq (r := fun a b => wlt b a = true) (fun a z => by rw [wlt_irr] at z; cases z) (fun a b c h1 h2 => wlt_trans h2 h1) ((desc_sorted t P).sublist (List.take_sublist ..)) (desc_sorted t _) fun w => ?_⟩
  rw [mem_desc t hv, isIn_iff]
theorem runs_take (t : Tm) {P : Wy → Bool} (h : t.val P) (n : Nat) : t.runs ((desc t P).take n) = some (dev t (isIn ((desc t P).take n))) := by
  obtain ⟨h1, h2⟩ := desc_take t h n
  have z := runs_desc t h1
  rw [← h2] at z
  exact z
theorem runs_lv (t : Tm) {P : Wy → Bool} (h : t.val P) (n : Nat) (u : Tm) (hr : t.runs ((desc t P).take n) = some u) : u.lv ≤ gro t.dp := by
  rw [runs_take t h n] at hr
  cases hr
  exact dev_lv t (desc_take t h n).1
theorem desc_len {t : Tm} {l : List Wy} (hv : t.val (isIn l)) (hn : l.Nodup) : (desc t (isIn l)).length = l.length := by
  have e := sortR_ways hn (desc_sorted t (isIn l)) fun w => by rw [mem_desc t hv, isIn_iff]
  have e2 := congrArg List.length e
  rw [sortR, List.length_mergeSort, List.length_map, List.length_map] at e2
  exact e2.symm
theorem aways_nodup : ∀ t : Tm, t.aways.Nodup
  | lf s => List.pairwise_singleton ..
  | ap a b => by
    have inj : ∀ (n : Nat) (l : List Wy), l.Nodup → (l.map (n :: ·)).Nodup := fun n l h => List.pairwise_map.mpr (h.imp fun {a b} hab z => hab (List.cons.inj z).2)
    rw [aways, List.nodup_cons]
    refine ⟨by simp, List.nodup_append.mpr ⟨inj 0 _ (aways_nodup a), inj 1 _ (aways_nodup b), ?_⟩⟩
    intro x hx y hy e
    obtain ⟨u, _, rfl⟩ := List.mem_map.mp hx
    obtain ⟨v, _, rfl⟩ := List.mem_map.mp hy
    simp at e
theorem ways_nodup (t : Tm) : t.ways.Nodup := by
  rw [ways_p, ← filter_aways]
  exact (aways_nodup t).filter _
theorem ways_len_lv : ∀ t : Tm, t.ways.length < t.lv
  | lf _ => Nat.lt_succ_self _
  | ap a b => by
    have h1 := ways_len_lv a
    have h2 := ways_len_lv b
    have h3 : (if (ap a b).deed ≠ 0 then [[]] else ([] : List Wy)).length ≤ 1 := by split <;> simp
    simp only [ways, List.length_append, List.length_map, lv]
    omega
theorem some_none : ∀ t : Tm, ∃ w, w ∈ t.aways ∧ ¬ t.red w
  | lf s => ⟨[], by simp [aways], red_lf⟩
  | ap a b => by
    obtain ⟨w, h1, h2⟩ := some_none a
    exact ⟨0 :: w, by simp [aways, h1], fun z => h2 (red_0.mp z)⟩
end Tm
theorem ins_perm {α : Type} (l : List α) (n : Nat) (x : α) : (l.take n ++ [x] ++ l.drop n).Perm (x :: l) := by
  have h := List.take_append_drop n l
  rw [List.append_assoc]
  refine (List.perm_middle (a := x) (l₁ := l.take n) (l₂ := l.drop n)).trans ?_
  rw [h]
theorem mem_get_mod {α : Type} {l : List α} (h : l ≠ []) (z : Nat) (f : α → D) : ∃ w, w ∈ l ∧ L2.atI (l.map f) ((z : Int) % (l.length : Int)) = some (f w) := by
  have hp : 0 < l.length := List.length_pos_iff.mpr h
  have hlt : z % l.length < l.length := Nat.mod_lt _ hp
  refine ⟨l[z % l.length], List.getElem_mem _, ?_⟩
  rw [show (z : Int) % (l.length : Int) = ((z % l.length : Nat) : Int) by simp]
  exact at_nat _ (by rw [List.getElem?_map, List.getElem?_eq_getElem hlt]; rfl)
end CH

/-! T 9: marks, as the law makes them. -/
namespace CH
open PySem
namespace Tm
theorem part_app : ∀ (w v : Wy) (t u : Tm), t.part w = some u → t.part (w ++ v) = u.part v
  | [], v, t, u, h => by rw [part_nil] at h; cases h; rfl
  | n :: w, v, .lf s, u, h => by simp [part] at h
  | 0 :: w, v, .ap a b, u, h => by simpa [part] using part_app w v a u h
  | 1 :: w, v, .ap a b, u, h => by simpa [part] using part_app w v b u h
  | (n + 2) :: w, v, .ap a b, u, h => by simp [part] at h
theorem mark_dp (t : Tm) : ∀ {Q : Wy → Bool}, t.val Q → (mark t Q).dp = t.dp := by
  induction t using val_rec with
  | hl s => intro Q h; rw [mark_lf]
  | ha a b iha ihb ih1 ih2 =>
    intro Q h
    have hb := ihb h.r
    cases e : Q [] with
    | false => rw [mark_no e]; simp [dp, iha h.l, hb]
    | true =>
      rcases h.cases e with ⟨x, b', q⟩ | ⟨x, y, b', q⟩
      · cases q
        rw [mark_K e]; simp [dp, ih1 _ _ rfl h.l.r, hb]
      · cases q
        rw [mark_S e]; simp [dp, (ih2 _ _ _ rfl).1 h.l.l.r, (ih2 _ _ _ rfl).2 h.l.r, hb]
theorem mark_lv (t : Tm) : ∀ {Q : Wy → Bool}, t.val Q → (mark t Q).lv = t.lv := by
  induction t using val_rec with
  | hl s => intro Q h; rw [mark_lf]
  | ha a b iha ihb ih1 ih2 =>
    intro Q h
    have hb := ihb h.r
    cases e : Q [] with
    | false => rw [mark_no e]; simp [lv, iha h.l, hb]
    | true =>
      rcases h.cases e with ⟨x, b', q⟩ | ⟨x, y, b', q⟩
      · cases q
        rw [mark_K e]; simp [lv, ih1 _ _ rfl h.l.r, hb]
      · cases q
        rw [mark_S e]; simp [lv, (ih2 _ _ _ rfl).1 h.l.l.r, (ih2 _ _ _ rfl).2 h.l.r, hb]
theorem mark_red {t : Tm} {Q : Wy → Bool} {w : Wy} (hv : t.val Q) (hw : t.red w) (hq : Q w = false) : (mark t Q).red w := by
  have h := t.val_mark (P := eqW w) (Q := Q) (fun v e => by simp [eqW] at e; rw [e]; exact hw) hv (fun v => by
    by_cases e : v = w
    · rw [e, hq, Bool.and_false]
    · simp [eqW, e])
  exact h w (by simp [eqW])
/-- one more mark, as it is made -/
theorem mark_step (t : Tm) {Q : Wy → Bool} {w : Wy} (hv : t.val Q) (hw : t.red w) (hq : Q w = false) : ∃ (u : Tm) (n : Nat) (s : Str), (mark t Q).part w = some u ∧ u.deedL "K" "S" = n ∧ (n = 2 ∨ n = 3) ∧ s.length = 1 ∧
    (mark t Q).part (w ++ List.replicate n 0) = some (lf s) ∧ (mark t Q).put (w ++ List.replicate n 0) (lf (bang s)) = mark t fun v => Q v || eqW w v := by
  obtain ⟨u, hp, hu⟩ := mark_red hv hw hq
  have hm := mark_more t hv hw hq
  unfold bangAt at hm
  rw [hp] at hm
  dsimp only at hm
  rcases deed_cases hu with ⟨x, b, q⟩ | ⟨x, y, b, q⟩
  · have e : deedL "K" "S" u = 2 := by rw [q]; simp [deedL, hd]
    have e2 : u.part (List.replicate 2 0) = some (lf "K") := by rw [q]; simp [List.replicate, part]
    rw [e, e2] at hm
    exact ⟨u, 2, "K", hp, e, .inl rfl, by decide +kernel, by rw [part_app w _ _ _ hp, e2], hm⟩
  · have e : deedL "K" "S" u = 3 := by rw [q]; simp [deedL, hd]
    have e2 : u.part (List.replicate 3 0) = some (lf "S") := by rw [q]; simp [List.replicate, part]
    rw [e, e2] at hm
    exact ⟨u, 3, "S", hp, e, .inr rfl, by decide +kernel, by rw [part_app w _ _ _ hp, e2], hm⟩
/-- what is among the some leaves nothing -/
theorem res_diff (t : Tm) : ∀ {P Q : Wy → Bool}, t.val P → res t P (fun w => Q w && !P w) = res t P Q := by
  induction t using val_rec with
  | hl s => intro P Q h; rw [res_lf, res_lf]
  | ha a b iha ihb ih1 ih2 =>
    intro P Q h
    have hb := ihb (Q := fun w => Q (1 :: w)) h.r
    cases e : P [] with
    | false =>
      have ha := iha (Q := fun w => Q (0 :: w)) h.l
      rw [res_no e, res_no e, ha, hb, e]
      simp
    | true =>
      rcases h.cases e with ⟨x, b', q⟩ | ⟨x, y, b', q⟩
      · cases q
        rw [res_K e, res_K e]
        exact ih1 _ _ rfl (Q := fun w => Q (0 :: 1 :: w)) h.l.r
      · cases q
        have h1 := (ih2 _ _ _ rfl).1 (Q := fun w => Q (0 :: 0 :: 1 :: w)) h.l.l.r
        have h2 := (ih2 _ _ _ rfl).2 (Q := fun w => Q (0 :: 1 :: w)) h.l.r
        rw [res_S e, res_S e, h1, h2, hb]
end Tm
theorem bang_K : Tm.bang "K" = "K!" := by decide +kernel
theorem bang_S : Tm.bang "S" = "S!" := by decide +kernel
end CH

/-! T 10: the last way; ends of tuples. -/
namespace CH
open PySem L2
namespace Tm
/-- the way to the last leaf -/
def lastw : Tm → Wy
  | lf _ => []
  | ap _ b => 1 :: lastw b
theorem aways_last : ∀ t : Tm, ∃ pre, t.aways = pre ++ [t.lastw]
  | lf s => ⟨[], rfl⟩
  | ap a b => by
    obtain ⟨pre, h⟩ := aways_last b
    exact ⟨[] :: (a.aways.map (0 :: ·) ++ pre.map (1 :: ·)), by simp [aways, lastw, h]⟩
theorem lastw_part : ∀ t : Tm, ∃ s, t.part t.lastw = some (lf s)
  | lf s => ⟨s, by simp [lastw, part]⟩
  | ap a b => by
    obtain ⟨s, h⟩ := lastw_part b
    exact ⟨s, by simpa [lastw, part] using h⟩
theorem lastw_no (t : Tm) : ¬ t.red t.lastw ∧ ¬ t.red (t.lastw ++ [0]) := by
  obtain ⟨s, h⟩ := lastw_part t
  refine ⟨fun ⟨u, h1, h2⟩ => ?_, fun ⟨u, h1, h2⟩ => ?_⟩
  · rw [h] at h1
    cases h1
    exact h2 rfl
  · rw [part_app _ _ _ _ h] at h1
    simp [part] at h1
theorem lastw_len (t : Tm) : t.lastw.length ≤ t.dp := by
  obtain ⟨s, h⟩ := lastw_part t
  exact whi_le.part_len t _ _ h
end Tm
theorem cut_init (xs : List D) : cutD xs none (some (-1)) = xs.dropLast := by
  unfold cutD
  have e : HT.sIx xs.length xs.length (some (-1)) = xs.length - 1 := by
    show (if (-1 : Int) < 0 then ((-1 : Int) + (xs.length : Int)).toNat else min (-1 : Int).toNat xs.length) = xs.length - 1
    rw [if_pos (by decide)]
    omega
  rw [e, HT.sIx_none, List.drop_zero, Nat.sub_zero, List.dropLast_eq_take]
theorem ne_tnil (xs : List D) : dNe (.tuple xs) (.tuple []) = some (.bool (!xs.isEmpty)) := by
  rw [dNe_of _ _ (by simp [PyData.depth, PyData.depthAll])]
  cases xs <;> simp [PyData.eqv, PyData.eqvAll]
theorem ne_lnil (xs : List D) : dNe (.list xs) (.list []) = some (.bool (!xs.isEmpty)) := by
  rw [dNe_of _ _ (by simp [PyData.depth, PyData.depthAll])]
  cases xs <;> simp [PyData.eqv, PyData.eqvAll]
theorem eq_lnil (xs : List D) : dEq (.list xs) (.list []) = some (.bool xs.isEmpty) := by
  rw [dEq_of _ _ (by simp [PyData.depth, PyData.depthAll])]
  cases xs <;> simp [PyData.eqv, PyData.eqvAll]
theorem nD_dropLast (w : List Nat) (x : Nat) : (nD (w ++ [x])).dropLast = nD w := by
  rw [nD_app]; simp
end CH

/-! T 11: names in terms; terms filled. -/
namespace CH
open PySem L2
/-- a list of texts -/
def sD (l : List Str) : D := .list (l.map PyData.str)
theorem o_sset (l : List Str) (h : l.length ≤ 4000) : sSet (sD l) = some (sD (sSort (dedS l))) := by
  show (if (l.map PyData.str).all isStr = true ∧ (l.map PyData.str).length ≤ 4000 then _ else _) = _
  rw [if_pos ⟨by rw [List.all_map]; exact List.all_eq_true.mpr fun _ _ => rfl, by rw [List.length_map]; exact h⟩, dedup_strs, sortD_strs]
  rfl
theorem mem_sSort (l : List Str) (x : Str) : x ∈ sSort (dedS l) ↔ x ∈ l := by rw [(sSort_perm _).mem_iff, mem_dedS]
theorem dedS_len : ∀ l : List Str, (dedS l).length ≤ l.length
  | [] => Nat.le_refl _
  | s :: r => by
    have := dedS_len r
    rw [dedS]
    split
    · rw [List.length_cons]; omega
    · rw [List.length_cons, List.length_cons]; omega
theorem sSort_len (l : List Str) : (sSort (dedS l)).length ≤ l.length := by rw [(sSort_perm _).length_eq]; exact dedS_len l
theorem sSort_nodup (l : List Str) : (sSort (dedS l)).Nodup := (sSort_perm _).symm.nodup (dedS_nodup l)
theorem leaf_name {s : Str} (h : isLeaf s = true) : isName s = !(decide (s = "K") || decide (s = "S")) := by
  by_cases h1 : s = "K"
  · subst h1; decide +kernel
  · by_cases h2 : s = "S"
    · subst h2; decide +kernel
    · simp [isLeaf, h1, h2] at h
      simp [h, h1, h2]
theorem name_ks {s : Str} (h : isName s = true) : s ≠ "K" ∧ s ≠ "S" := by
  constructor
  · rintro rfl; exact absurd h (by decide +kernel)
  · rintro rfl; exact absurd h (by decide +kernel)
theorem name_leaf {s : Str} (h : isName s = true) : isLeaf s = true := by simp [isLeaf, h]
namespace Tm
def nms : Tm → List Str
  | lf s => if s = "K" ∨ s = "S" then [] else [s]
  | ap a b => sSort (dedS (nms a ++ nms b))
theorem nms_len : ∀ t : Tm, t.nms.length ≤ t.lv
  | lf s => by unfold nms; split <;> simp [lv]
  | ap a b => by
    have h1 := nms_len a
    have h2 := nms_len b
    have h3 := sSort_len (a.nms ++ b.nms)
    rw [List.length_append] at h3
    show (sSort (dedS (a.nms ++ b.nms))).length ≤ a.lv + b.lv
    omega
theorem mem_nms_ap (a b : Tm) (x : Str) : x ∈ (ap a b).nms ↔ x ∈ a.nms ∨ x ∈ b.nms := by
  show x ∈ sSort (dedS (a.nms ++ b.nms)) ↔ _
  rw [mem_sSort, List.mem_append]
theorem nms_name : ∀ (t : Tm), t.ok = true → ∀ x ∈ t.nms, isName x = true
  | lf s, h, x, hx => by
    have h : isLeaf s = true := h
    unfold nms at hx
    split at hx
    · cases hx
    · rename_i hk
      rw [List.mem_singleton.mp hx, leaf_name h]
      simp only [not_or] at hk
      simp [hk.1, hk.2]
  | ap a b, h, x, hx => by
    simp [ok] at h
    rcases (mem_nms_ap a b x).mp hx with hx | hx
    · exact nms_name a h.1 x hx
    · exact nms_name b h.2 x hx
theorem nms_nodup : ∀ t : Tm, t.nms.Nodup
  | lf s => by unfold nms; split <;> simp
  | ap a b => sSort_nodup _
/-- o in n's stead -/
def fill : Tm → Str → Tm → Tm
  | lf s, n, o => if s = n then o else lf s
  | ap a b, n, o => ap (fill a n o) (fill b n o)
theorem fill_ok (n : Str) (o : Tm) (ho : o.ok = true) : ∀ t : Tm, t.ok = true → (fill t n o).ok = true
  | lf s, h => by unfold fill; split <;> assumption
  | ap a b, h => by simp [ok] at h; simp [fill, ok, fill_ok n o ho a h.1, fill_ok n o ho b h.2]
theorem fill_dp (n : Str) (o : Tm) : ∀ t : Tm, (fill t n o).dp ≤ t.dp + o.dp
  | lf s => by unfold fill; split <;> simp [dp]
  | ap a b => by
    have := fill_dp n o a
    have := fill_dp n o b
    simp [fill, dp]; omega
theorem fill_lv (n : Str) (o : Tm) : ∀ t : Tm, (fill t n o).lv ≤ t.lv * o.lv
  | lf s => by
    have := o.lv_pos
    unfold fill
    split
    · simp [lv]
    · simp [lv]; omega
  | ap a b => by
    have h1 := fill_lv n o a
    have h2 := fill_lv n o b
    simp only [fill, lv, Nat.add_mul]
    omega
end Tm
theorem dIn_ks (s a b : Str) : dIn (.str s) (.tuple [.str a, .str b]) = some (.bool (decide (s = a) || decide (s = b))) := by
  unfold dIn
  have : inB (.str s) (.tuple [.str a, .str b]) = some (decide (s = a) || decide (s = b)) := by
    show (if min (PyData.depthAll [.str a, .str b]) (PyData.depth (.str s)) ≤ 400 then some ([PyData.str a, .str b].any fun y => PyData.eqv y (.str s)) else none) = _
    rw [if_pos (by simp [PyData.depth])]
    have e : ∀ x y : Str, (x == y) = decide (y = x) := fun x y => by rw [Bool.eq_iff_iff, beq_iff_eq, decide_eq_true_iff]; exact eq_comm
    simp [PyData.eqv, e]
  rw [this]; rfl
end CH

/-! T 12: names taken out. -/
namespace CH
open PySem L2
def risS (l : List Str) : Prop := l.Pairwise fun a b => sLt a b = true
theorem risS_sort (l : List Str) : risS (sSort (dedS l)) := by
  have s := List.pairwise_mergeSort sLe_tra sLe_tot (dedS l)
  have nd : (sSort (dedS l)).Pairwise (· ≠ ·) := sSort_nodup l
  refine (s.and nd).imp fun {a b} ⟨h1, h2⟩ => ?_
  rcases sLt_tri a b h2 with w | w
  · exact w
  · rw [w] at h1; cases h1
theorem risS_eq {l m : List Str} (hl : risS l) (hm : risS m) (h : ∀ x, x ∈ l ↔ x ∈ m) : l = m :=
  sorted_eq (r := fun a b => sLt a b = true) (fun a z => by rw [sLt_irr] at z; cases z) (fun a b c => sLt_tra) hl hm h
theorem any_in (n : Str) (l : List Str) : ((l.map PyData.str).any fun e => PyData.eqv e (.str n)) = decide (n ∈ l) := any_strs n l
theorem depth_strs : ∀ l : List Str, PyData.depthAll (l.map PyData.str) = 0
  | [] => rfl
  | s :: r => by simp [PyData.depthAll, PyData.depth, depth_strs r]
theorem plain_strs : ∀ l : List Str, PyData.plainAll (l.map PyData.str) = true
  | [] => rfl
  | s :: r => by simp [PyData.plainAll, PyData.plain, plain_strs r]
theorem inB_sD (n : Str) (l : List Str) : inB (.str n) (sD l) = some (decide (n ∈ l)) := by
  show (if min (PyData.depthAll (l.map PyData.str)) (PyData.depth (.str n)) ≤ 400 then some ((l.map PyData.str).any fun y => PyData.eqv y (.str n)) else none) = _
  rw [if_pos (by rw [depth_strs]; simp), any_in]
theorem dIn_sD (n : Str) (l : List Str) : dIn (.str n) (sD l) = some (.bool (decide (n ∈ l))) := by rw [dIn, inB_sD]; rfl
theorem dNotIn_sD (n : Str) (l : List Str) : dNotIn (.str n) (sD l) = some (.bool (!decide (n ∈ l))) := by rw [dNotIn, inB_sD]; rfl
theorem sD_self (l : List Str) : dEq (sD l) (sD l) = some (.bool true) := dEq_self (by show PyData.plainAll _ = true; exact plain_strs l) (by show (PyData.depthAll _ + 1) ≤ 400; rw [depth_strs]; omega)
theorem sD_selfN (l : List Str) : dNe (sD l) (sD l) = some (.bool false) := dNe_self (by show PyData.plainAll _ = true; exact plain_strs l) (by show (PyData.depthAll _ + 1) ≤ 400; rw [depth_strs]; omega)
namespace Tm
theorem eq_leaf (b : Tm) (n : Str) : dEq b.d (.str n) = some (.bool (decide (b = .lf n))) := by
  cases b with
  | lf s =>
    rw [d, o_eqS]
    by_cases h : s = n <;> simp [h]
  | ap a b => simp [d]
theorem nms_ris : ∀ t : Tm, risS t.nms
  | lf s => by
    unfold nms
    split
    · exact List.Pairwise.nil
    · exact List.pairwise_singleton ..
  | ap a b => risS_sort _
/-- n taken out -/
def out : Tm → Str → Bool → Tm
  | lf s, n, lean => if lean = true ∧ n ∉ nms (lf s) then ap (lf "K") (lf s) else if s = n then ap (ap (lf "S") (lf "K")) (lf "K") else ap (lf "K") (lf s)
  | ap a b, n, lean => if lean = true ∧ n ∉ nms (ap a b) then ap (lf "K") (ap a b) else if lean = true ∧ b = lf n ∧ n ∉ nms a then a else ap (ap (lf "S") (out a n lean)) (out b n lean)
theorem out_ok (n : Str) (l : Bool) : ∀ t : Tm, t.ok = true → (t.out n l).ok = true
  | lf s, h => by
    have hk : (lf "K").ok = true := by decide +kernel
    have hs : (lf "S").ok = true := by decide +kernel
    unfold out
    split
    · simp [ok] at h hk ⊢; exact ⟨hk, h⟩
    · split
      · simp [ok] at hk hs ⊢; exact ⟨hs, hk⟩
      · simp [ok] at h hk ⊢; exact ⟨hk, h⟩
  | ap a b, h => by
    have hk : (lf "K").ok = true := by decide +kernel
    have hs : (lf "S").ok = true := by decide +kernel
    have h' := h
    simp [ok] at h'
    have h1 := out_ok n l a h'.1
    have h2 := out_ok n l b h'.2
    unfold out
    split
    · simp only [ok] at hk h ⊢; simp [hk, h']
    · split
      · exact h'.1
      · simp only [ok] at hs ⊢; simp [hs, h1, h2]
theorem out_dp (n : Str) (l : Bool) : ∀ t : Tm, (t.out n l).dp ≤ 2 * t.dp + 2
  | lf s => by
    unfold out
    split
    · simp [dp]
    · split <;> simp [dp]
  | ap a b => by
    have h1 := out_dp n l a
    have h2 := out_dp n l b
    unfold out
    split
    · simp [dp]; omega
    · split
      · simp [dp]; omega
      · simp [dp]; omega
theorem out_lv (n : Str) (l : Bool) : ∀ t : Tm, (t.out n l).lv + 1 ≤ 4 * t.lv
  | lf s => by
    unfold out
    split
    · simp [lv]
    · split <;> simp [lv]
  | ap a b => by
    have h1 := out_lv n l a
    have h2 := out_lv n l b
    have := a.lv_pos
    have := b.lv_pos
    unfold out
    split
    · simp [lv]; omega
    · split
      · simp [lv]; omega
      · simp [lv]; omega
theorem mem_nms_lf (s x : Str) : x ∈ (lf s).nms ↔ x = s ∧ s ≠ "K" ∧ s ≠ "S" := by
  unfold nms
  by_cases h : s = "K" ∨ s = "S"
  · rw [if_pos h]
    rcases h with h | h <;> simp [h]
  · rw [if_neg h, List.mem_singleton]
    simp only [not_or] at h
    exact ⟨fun z => ⟨z, h⟩, fun z => z.1⟩
/-- it stands there no more, all others do -/
theorem mem_out (n : Str) (hn : isName n = true) (l : Bool) : ∀ (t : Tm) (x : Str), x ∈ (t.out n l).nms ↔ x ∈ t.nms ∧ x ≠ n
  | lf s, x => by
    obtain ⟨hk, hs⟩ := name_ks hn
    have ek : ∀ x, ¬ x ∈ (lf "K").nms := fun x h => ((mem_nms_lf _ _).mp h).2.1 rfl
    have es : ∀ x, ¬ x ∈ (lf "S").nms := fun x h => ((mem_nms_lf _ _).mp h).2.2 rfl
    unfold out
    split
    · rename_i h
      rw [mem_nms_ap]
      constructor
      · rintro (z | z)
        · exact absurd z (ek x)
        · exact ⟨z, fun e => h.2 (e ▸ z)⟩
      · rintro ⟨z, _⟩; exact .inr z
    · split
      · rename_i h
        rw [mem_nms_ap, mem_nms_ap]
        constructor
        · rintro ((z | z) | z)
          · exact absurd z (es x)
          · exact absurd z (ek x)
          · exact absurd z (ek x)
        · rintro ⟨z, e⟩
          exact absurd (((mem_nms_lf _ _).mp z).1.trans h) e
      · rename_i h
        rw [mem_nms_ap]
        constructor
        · rintro (z | z)
          · exact absurd z (ek x)
          · exact ⟨z, fun e => h (((mem_nms_lf _ _).mp z).1.symm.trans e)⟩
        · rintro ⟨z, _⟩; exact .inr z
  | ap a b, x => by
    have ek : ∀ x, ¬ x ∈ (lf "K").nms := fun x h => ((mem_nms_lf _ _).mp h).2.1 rfl
    have es : ∀ x, ¬ x ∈ (lf "S").nms := fun x h => ((mem_nms_lf _ _).mp h).2.2 rfl
    have h1 := mem_out n hn l a x
    have h2 := mem_out n hn l b x
    unfold out
    split
    · rename_i h
      rw [mem_nms_ap]
      constructor
      · rintro (z | z)
        · exact absurd z (ek x)
        · exact ⟨z, fun e => h.2 (e ▸ z)⟩
      · rintro ⟨z, _⟩; exact .inr z
    · split
      · rename_i h
        obtain ⟨_, rfl, h4⟩ := h
        rw [mem_nms_ap]
        constructor
        · intro z; exact ⟨.inl z, fun e => h4 (e ▸ z)⟩
        · rintro ⟨z | z, e⟩
          · exact z
          · exact absurd ((mem_nms_lf _ _).mp z).1 e
      · rw [mem_nms_ap, mem_nms_ap, mem_nms_ap, h1, h2]
        constructor
        · rintro ((z | z) | z)
          · exact absurd z (es x)
          · exact ⟨.inl z.1, z.2⟩
          · exact ⟨.inr z.1, z.2⟩
        · rintro ⟨z | z, e⟩
          · exact .inl (.inr ⟨z, e⟩)
          · exact .inr ⟨z, e⟩
theorem nms_out (t : Tm) (n : Str) (hn : isName n = true) (l : Bool) : (t.out n l).nms = t.nms.filter fun x => !decide (x = n) := by
  refine risS_eq (nms_ris _) ((nms_ris t).filter _) fun x => ?_
  rw [mem_out n hn l t x, List.mem_filter]
  simp
end Tm
end CH

/-! T 13: functions with holes; their terms. -/
namespace CH
open PySem L2
inductive Fx where
  | lf (s : Str)
  | fn (x : Str) (b : Fx)
  | ap (a b : Fx)
namespace Fx
def d : Fx → D
  | lf s => .str s
  | fn x b => .tuple [.str "fn", .str x, b.d]
  | ap a b => .tuple [a.d, b.d]
/-- parts -/
def n : Fx → Nat
  | lf _ => 1
  | fn _ b => b.n + 1
  | ap a b => a.n + b.n + 1
/-- layers -/
def h : Fx → Nat
  | lf _ => 0
  | fn _ b => b.h + 1
  | ap a b => max a.h b.h + 1
/-- how deep its term may be -/
def md : Fx → Nat
  | lf _ => 0
  | fn _ b => 2 * b.md + 2
  | ap a b => max a.md b.md + 1
def ok : Fx → Bool
  | lf s => isLeaf s
  | fn x b => isName x && b.ok
  | ap a b => a.ok && b.ok
theorem pos : ∀ t : Fx, 1 ≤ t.n
  | lf _ => Nat.le_refl _
  | fn _ b => by have := pos b; show 1 ≤ b.n + 1; omega
  | ap a b => by show 1 ≤ a.n + b.n + 1; omega
theorem h_md : ∀ t : Fx, t.h ≤ t.md
  | lf _ => Nat.le_refl _
  | fn _ b => by have := h_md b; simp [h, md]; omega
  | ap a b => by have := h_md a; have := h_md b; simp [h, md]; omega
theorem h_n : ∀ t : Fx, t.h < t.n
  | lf _ => Nat.lt_succ_self _
  | fn _ b => by have := h_n b; simp [h, n]; omega
  | ap a b => by have := h_n a; have := h_n b; simp [h, n]; omega
/-- the names that no hole binds -/
def fr : Fx → List Str
  | lf s => if s = "K" ∨ s = "S" then [] else [s]
  | fn x b => b.fr.filter fun y => !decide (y = x)
  | ap a b => sSort (dedS (a.fr ++ b.fr))
theorem fr_len : ∀ t : Fx, t.fr.length ≤ t.n
  | lf s => by unfold fr; split <;> simp [n]
  | fn x b => by
    have := fr_len b
    have h2 := List.length_filter_le (fun y => !decide (y = x)) b.fr
    simp only [fr, n]; omega
  | ap a b => by
    have h1 := fr_len a
    have h2 := fr_len b
    have h3 := sSort_len (a.fr ++ b.fr)
    rw [List.length_append] at h3
    simp only [fr, n]; omega
def sm (t : Tm) : Option Tm := if t.lv ≤ 200 then some t else none
theorem sm_some {t u : Tm} (e : sm t = some u) : u = t ∧ t.lv ≤ 200 := by
  unfold sm at e
  split at e
  · rename_i h; cases e; exact ⟨rfl, h⟩
  · cases e
/-- the term, or none where one within is too big -/
def mk (l : Bool) : Fx → Option Tm
  | lf s => some (.lf s)
  | fn x b => (mk l b).bind fun u => sm (u.out x l)
  | ap a b => (mk l a).bind fun u => (mk l b).bind fun v => sm (.ap u v)
theorem mk_facts (l : Bool) : ∀ (t : Fx) (u : Tm), t.ok = true → mk l t = some u → u.ok = true ∧ u.lv ≤ 200 ∧ u.dp ≤ t.md
  | lf s, u, ho, e => by cases e; exact ⟨ho, by simp [Tm.lv], Nat.le_refl _⟩
  | fn x b, u, ho, e => by
    simp only [ok, Bool.and_eq_true] at ho
    simp only [mk] at e
    cases eb : mk l b with
    | none => rw [eb] at e; cases e
    | some v =>
      rw [eb] at e
      obtain ⟨rfl, hl⟩ := sm_some e
      obtain ⟨h1, h2, h3⟩ := mk_facts l b v ho.2 eb
      have := v.out_dp x l
      exact ⟨v.out_ok x l h1, hl, by simp only [md]; omega⟩
  | ap a b, u, ho, e => by
    simp only [ok, Bool.and_eq_true] at ho
    simp only [mk] at e
    cases ea : mk l a with
    | none => rw [ea] at e; cases e
    | some v =>
      rw [ea] at e
      cases eb : mk l b with
      | none => rw [eb] at e; cases e
      | some w =>
        rw [eb] at e
        obtain ⟨rfl, hl⟩ := sm_some e
        obtain ⟨h1, h2, h3⟩ := mk_facts l a v ho.1 ea
        obtain ⟨g1, g2, g3⟩ := mk_facts l b w ho.2 eb
        exact ⟨by simp [Tm.ok, h1, g1], hl, by simp only [md, Tm.dp]; omega⟩
/-- x, put on S so often -/
def hun : Nat → Fx
  | 0 => lf "x"
  | n + 1 => ap (hun n) (lf "S")
theorem hun_n : ∀ m, (hun m).n = 2 * m + 1 ∧ (hun m).h = m ∧ (hun m).md = m ∧ (hun m).ok = true
  | 0 => ⟨rfl, rfl, rfl, by decide +kernel⟩
  | m + 1 => by
    obtain ⟨h1, h2, h3, h4⟩ := hun_n m
    have hs : isLeaf "S" = true := by decide +kernel
    refine ⟨by simp [hun, n, h1]; omega, by simp [hun, h, h2], by simp [hun, md, h3], by simp [hun, ok, h4, hs]⟩
theorem hun_mk : ∀ m, m < 50 → 48 ≤ m → (mk false (hun m)).isSome = true ∧ (mk false (fn "x" (hun m))).isSome = true := by decide +kernel
end Fx
end CH

/-! the defs of copyhands_k30_at_the_edges in the small language (printed) -/
namespace K30
open PySem PySem.Spec PyProof.Rows L2 CH
def tp (i : Nat) : Stmt := PySem.Challenge.pw_copyhands_k30_at_the_edges.main.body.getD i (.Pass ⟨0, 0, 0, 0⟩)
abbrev s0 : Stmt := tp 10
abbrev f_is_within : Nat := 0
abbrev s1 : Stmt := tp 11
abbrev f_is_name : Nat := 1
abbrev s2 : Stmt := tp 12
abbrev f_is_leaf : Nat := 2
abbrev s3 : Stmt := tp 13
abbrev f_left_of : Nat := 3
abbrev s4 : Stmt := tp 14
abbrev f_is_term : Nat := 4
abbrev s5 : Stmt := tp 15
abbrev f_checked : Nat := 5
abbrev s6 : Stmt := tp 16
abbrev f_looked : Nat := 6
abbrev s7 : Stmt := tp 17
abbrev f_leaves : Nat := 7
abbrev s8 : Stmt := tp 20
abbrev f_deed_of : Nat := 8
abbrev s9 : Stmt := tp 21
abbrev f_done : Nat := 9
abbrev s10 : Stmt := tp 22
abbrev f_ways_of : Nat := 10
abbrev s11 : Stmt := tp 23
abbrev f_part_at : Nat := 11
abbrev s12 : Stmt := tp 24
abbrev f_with_part : Nat := 12
abbrev s13 : Stmt := tp 25
abbrev f_look_way : Nat := 13
abbrev s14 : Stmt := tp 26
abbrev f_step_to : Nat := 14
abbrev s15 : Stmt := tp 27
abbrev f_stepped : Nat := 15
abbrev s16 : Stmt := tp 28
abbrev f_led : Nat := 16
abbrev s17 : Stmt := tp 29
abbrev f_played : Nat := 17
abbrev s18 : Stmt := tp 31
abbrev f_below : Nat := 18
abbrev s19 : Stmt := tp 32
abbrev f_look_ways : Nat := 19
abbrev s20 : Stmt := tp 33
abbrev f_all_done : Nat := 20
abbrev s21 : Stmt := tp 34
abbrev f_moved : Nat := 21
abbrev s22 : Stmt := tp 35
abbrev f_left : Nat := 22
abbrev s23 : Stmt := tp 38
abbrev f_walked : Nat := 23
abbrev s24 : Stmt := tp 39
abbrev f_woven : Nat := 24
abbrev s25 : Stmt := tp 40
abbrev f_meet : Nat := 25
abbrev s26 : Stmt := tp 43
abbrev f_line_to : Nat := 26
abbrev s27 : Stmt := tp 44
abbrev f_after : Nat := 27
abbrev s28 : Stmt := tp 45
abbrev f_end_of : Nat := 28
abbrev s29 : Stmt := tp 46
abbrev f_led_by : Nat := 29
abbrev s30 : Stmt := tp 48
abbrev f__law_cell : Nat := 30
abbrev s31 : Stmt := tp 49
abbrev f__law_row : Nat := 31
abbrev s32 : Stmt := tp 50
abbrev f__law_name : Nat := 32
abbrev s33 : Stmt := tp 51
abbrev f__law_leaf : Nat := 33
abbrev s34 : Stmt := tp 52
abbrev f__law_leaves : Nat := 34
abbrev s35 : Stmt := tp 53
abbrev f__law_part : Nat := 35
abbrev s36 : Stmt := tp 54
abbrev f__law_with : Nat := 36
abbrev s37 : Stmt := tp 55
abbrev f__law_deed : Nat := 37
abbrev s38 : Stmt := tp 56
abbrev f__law_step : Nat := 38
abbrev s39 : Stmt := tp 57
abbrev f__law_edge : Nat := 39
abbrev s40 : Stmt := tp 58
abbrev f_law : Nat := 40
/-- is_within -/
def b_is_within : Ss := (.cons (.ret (.bop .And (.cons (.isi .int (.var 0 "thing" ⟨21,22,21,27⟩) ⟨21,11,21,21⟩ ⟨21,29,21,32⟩ ⟨21,11,21,33⟩) (.cons (.not (.isi .bool (.var 0 "thing" ⟨21,54,21,59⟩) ⟨21,43,21,53⟩ ⟨21,61,21,65⟩ ⟨21,43,21,66⟩) ⟨21,39,21,66⟩) (.cons (.chn .LtE .LtE (.var 1 "low" ⟨21,73,21,76⟩) (.var 0 "thing" ⟨21,80,21,85⟩) (.var 2 "high" ⟨21,89,21,93⟩) ⟨21,73,21,93⟩) .nil))) ⟨21,11,21,94⟩) ⟨21,4,21,94⟩)
  .nil)
/-- is_name -/
def b_is_name : Ss := (.cons (.ret (.bop .And (.cons (.isi .str (.var 0 "thing" ⟨23,22,23,27⟩) ⟨23,11,23,21⟩ ⟨23,29,23,32⟩ ⟨23,11,23,33⟩) (.cons (.chn .LtE .LtE (.cst (.int 1) 0 ⟨23,38,23,39⟩) (.bi .len (.var 0 "thing" ⟨23,47,23,52⟩) ⟨23,43,23,46⟩ ⟨23,43,23,53⟩) (.cst (.int 3) 0 ⟨23,57,23,58⟩) ⟨23,38,23,58⟩) (.cons (.not (.comp (.var 1 "sign" ⟨23,69,23,73⟩) (.one 1 "sign" ⟨23,78,23,82⟩) (.seq (.var 0 "thing" ⟨23,86,23,91⟩)) (.cons (.cmp .NotIn (.var 1 "sign" ⟨23,95,23,99⟩) (.glob 1 "SMALL" ⟨23,107,23,112⟩) ⟨23,95,23,112⟩) .nil) (cSc [(".0", .local), ("sign", .local), ("SMALL", .globalImplicit)]) [("sign", 1)] ⟨23,68,23,113⟩) ⟨23,64,23,113⟩) .nil))) ⟨23,11,23,114⟩) ⟨23,4,23,114⟩)
  .nil)
/-- is_leaf -/
def b_is_leaf : Ss := (.cons (.ret (.bop .And (.cons (.isi .str (.var 0 "thing" ⟨25,22,25,27⟩) ⟨25,11,25,21⟩ ⟨25,29,25,32⟩ ⟨25,11,25,33⟩) (.cons (.bop .Or (.cons (.cmp .Eq (.var 0 "thing" ⟨25,39,25,44⟩) (.cst (.str "K") 0 ⟨25,48,25,51⟩) ⟨25,39,25,51⟩) (.cons (.cmp .Eq (.var 0 "thing" ⟨25,55,25,60⟩) (.cst (.str "S") 0 ⟨25,64,25,67⟩) ⟨25,55,25,67⟩) (.cons (.call 1 "is_name" (.cons (.var 0 "thing" ⟨25,79,25,84⟩) .nil) ⟨25,71,25,78⟩ ⟨25,71,25,85⟩) .nil))) ⟨25,39,25,85⟩) .nil)) ⟨25,11,25,86⟩) ⟨25,4,25,86⟩)
  .nil)
/-- left_of -/
def b_left_of : Ss := (.cons (.ite (.isi .tuple (.var 0 "thing" ⟨27,18,27,23⟩) ⟨27,7,27,17⟩ ⟨27,25,27,30⟩ ⟨27,7,27,31⟩) (.cons (.ite (.bop .Or (.cons (.cmp .NotEq (.bi .len (.var 0 "thing" ⟨28,15,28,20⟩) ⟨28,11,28,14⟩ ⟨28,11,28,21⟩) (.cst (.int 2) 0 ⟨28,25,28,26⟩) ⟨28,11,28,26⟩) (.cons (.cmp .Lt (.var 1 "left" ⟨28,30,28,34⟩) (.cst (.int 2) 0 ⟨28,37,28,38⟩) ⟨28,30,28,38⟩) .nil)) ⟨28,11,28,38⟩) (.cons (.ret (.neg (.cst (.int 1) 0 ⟨29,20,29,21⟩) ⟨29,19,29,21⟩) ⟨29,12,29,21⟩)
  .nil) .nil ⟨28,8,29,21⟩)
  ((.cons (.set 1 "left" (.call 3 "left_of" (.cons (.ix (.var 0 "thing" ⟨30,23,30,28⟩) (.cst (.int 0) 0 ⟨30,29,30,30⟩) ⟨30,23,30,31⟩) (.cons (.bin .Sub (.var 1 "left" ⟨30,33,30,37⟩) (.cst (.int 1) 0 ⟨30,40,30,41⟩) ⟨30,33,30,41⟩) .nil)) ⟨30,15,30,22⟩ ⟨30,15,30,42⟩) ⟨30,8,30,12⟩ ⟨30,8,30,42⟩)
  ((.cons (.ret (.ife (.cmp .Lt (.var 1 "left" ⟨31,21,31,25⟩) (.cst (.int 0) 0 ⟨31,28,31,29⟩) ⟨31,21,31,29⟩) (.neg (.cst (.int 1) 0 ⟨31,16,31,17⟩) ⟨31,15,31,17⟩) (.call 3 "left_of" (.cons (.ix (.var 0 "thing" ⟨31,43,31,48⟩) (.cst (.int 1) 0 ⟨31,49,31,50⟩) ⟨31,43,31,51⟩) (.cons (.bin .Add (.var 1 "left" ⟨31,53,31,57⟩) (.cst (.int 1) 0 ⟨31,60,31,61⟩) ⟨31,53,31,61⟩) .nil)) ⟨31,35,31,42⟩ ⟨31,35,31,62⟩) ⟨31,15,31,62⟩) ⟨31,8,31,62⟩)
  .nil))))) .nil ⟨27,4,31,62⟩)
  ((.cons (.ret (.ife (.call 2 "is_leaf" (.cons (.var 0 "thing" ⟨32,31,32,36⟩) .nil) ⟨32,23,32,30⟩ ⟨32,23,32,37⟩) (.bin .Sub (.var 1 "left" ⟨32,11,32,15⟩) (.cst (.int 1) 0 ⟨32,18,32,19⟩) ⟨32,11,32,19⟩) (.neg (.cst (.int 1) 0 ⟨32,44,32,45⟩) ⟨32,43,32,45⟩) ⟨32,11,32,45⟩) ⟨32,4,32,45⟩)
  .nil)))
/-- is_term -/
def b_is_term : Ss := (.cons (.ret (.cmp .GtE (.call 3 "left_of" (.cons (.var 0 "thing" ⟨34,19,34,24⟩) (.cons (.glob 0 "MOST_LEAVES" ⟨34,26,34,37⟩) .nil)) ⟨34,11,34,18⟩ ⟨34,11,34,38⟩) (.cst (.int 0) 0 ⟨34,42,34,43⟩) ⟨34,11,34,43⟩) ⟨34,4,34,43⟩)
  .nil)
/-- checked -/
def b_checked : Ss := (.cons (.ite (.not (.call 4 "is_term" (.cons (.var 0 "term" ⟨36,19,36,23⟩) .nil) ⟨36,11,36,18⟩ ⟨36,11,36,24⟩) ⟨36,7,36,24⟩) (.cons (.rais 1 "BadTerm" "no term" 0 ⟨37,14,37,21⟩ ⟨37,22,37,31⟩ ⟨37,14,37,32⟩ ⟨37,8,37,32⟩)
  .nil) .nil ⟨36,4,37,32⟩)
  ((.cons (.ret (.var 0 "term" ⟨38,11,38,15⟩) ⟨38,4,38,15⟩)
  .nil)))
/-- looked -/
def b_looked : Ss := (.cons (.ite (.not (.call 4 "is_term" (.cons (.var 0 "term" ⟨40,19,40,23⟩) .nil) ⟨40,11,40,18⟩ ⟨40,11,40,24⟩) ⟨40,7,40,24⟩) (.cons (.rais 5 "TooBig" "too many leaves" 0 ⟨41,14,41,20⟩ ⟨41,21,41,38⟩ ⟨41,14,41,39⟩ ⟨41,8,41,39⟩)
  .nil) .nil ⟨40,4,41,39⟩)
  ((.cons (.ret (.var 0 "term" ⟨42,11,42,15⟩) ⟨42,4,42,15⟩)
  .nil)))
/-- leaves -/
def b_leaves : Ss := (.cons (.ret (.bin .Sub (.glob 0 "MOST_LEAVES" ⟨44,11,44,22⟩) (.call 3 "left_of" (.cons (.call 5 "checked" (.cons (.var 0 "term" ⟨44,41,44,45⟩) .nil) ⟨44,33,44,40⟩ ⟨44,33,44,46⟩) (.cons (.glob 0 "MOST_LEAVES" ⟨44,48,44,59⟩) .nil)) ⟨44,25,44,32⟩ ⟨44,25,44,60⟩) ⟨44,11,44,60⟩) ⟨44,4,44,60⟩)
  .nil)
/-- deed_of -/
def b_deed_of : Ss := (.cons (.ite (.bop .And (.cons (.isi .tuple (.var 0 "term" ⟨48,18,48,22⟩) ⟨48,7,48,17⟩ ⟨48,24,48,29⟩ ⟨48,7,48,30⟩) (.cons (.isi .tuple (.ix (.var 0 "term" ⟨48,46,48,50⟩) (.cst (.int 0) 0 ⟨48,51,48,52⟩) ⟨48,46,48,53⟩) ⟨48,35,48,45⟩ ⟨48,55,48,60⟩ ⟨48,35,48,61⟩) .nil)) ⟨48,7,48,61⟩) (.cons (.ite (.cmp .Eq (.ix (.ix (.var 0 "term" ⟨49,11,49,15⟩) (.cst (.int 0) 0 ⟨49,16,49,17⟩) ⟨49,11,49,18⟩) (.cst (.int 0) 0 ⟨49,19,49,20⟩) ⟨49,11,49,21⟩) (.cst (.str "K") 0 ⟨49,25,49,28⟩) ⟨49,11,49,28⟩) (.cons (.ret (.cst (.str "K") 0 ⟨50,19,50,22⟩) ⟨50,12,50,22⟩)
  .nil) .nil ⟨49,8,50,22⟩)
  ((.cons (.ite (.bop .And (.cons (.isi .tuple (.ix (.ix (.var 0 "term" ⟨51,22,51,26⟩) (.cst (.int 0) 0 ⟨51,27,51,28⟩) ⟨51,22,51,29⟩) (.cst (.int 0) 0 ⟨51,30,51,31⟩) ⟨51,22,51,32⟩) ⟨51,11,51,21⟩ ⟨51,34,51,39⟩ ⟨51,11,51,40⟩) (.cons (.cmp .Eq (.ix (.ix (.ix (.var 0 "term" ⟨51,45,51,49⟩) (.cst (.int 0) 0 ⟨51,50,51,51⟩) ⟨51,45,51,52⟩) (.cst (.int 0) 0 ⟨51,53,51,54⟩) ⟨51,45,51,55⟩) (.cst (.int 0) 0 ⟨51,56,51,57⟩) ⟨51,45,51,58⟩) (.cst (.str "S") 0 ⟨51,62,51,65⟩) ⟨51,45,51,65⟩) .nil)) ⟨51,11,51,65⟩) (.cons (.ret (.cst (.str "S") 0 ⟨52,19,52,22⟩) ⟨52,12,52,22⟩)
  .nil) .nil ⟨51,8,52,22⟩)
  .nil))) .nil ⟨48,4,52,22⟩)
  ((.cons (.ret (.cst (.str "") 0 ⟨53,11,53,13⟩) ⟨53,4,53,13⟩)
  .nil)))
/-- done -/
def b_done : Ss := (.cons (.ite (.cmp .Eq (.call 8 "deed_of" (.cons (.var 0 "term" ⟨55,15,55,19⟩) .nil) ⟨55,7,55,14⟩ ⟨55,7,55,20⟩) (.cst (.str "K") 0 ⟨55,24,55,27⟩) ⟨55,7,55,27⟩) (.cons (.ret (.ix (.ix (.var 0 "term" ⟨56,15,56,19⟩) (.cst (.int 0) 0 ⟨56,20,56,21⟩) ⟨56,15,56,22⟩) (.cst (.int 1) 0 ⟨56,23,56,24⟩) ⟨56,15,56,25⟩) ⟨56,8,56,25⟩)
  .nil) .nil ⟨55,4,56,25⟩)
  ((.cons (.par3 1 "first" ⟨57,4,57,9⟩ 2 "then" ⟨57,11,57,15⟩ 3 "shared" ⟨57,17,57,23⟩ 0 ⟨57,4,57,23⟩ (.ix (.ix (.ix (.var 0 "term" ⟨57,27,57,31⟩) (.cst (.int 0) 0 ⟨57,32,57,33⟩) ⟨57,27,57,34⟩) (.cst (.int 0) 0 ⟨57,35,57,36⟩) ⟨57,27,57,37⟩) (.cst (.int 1) 0 ⟨57,38,57,39⟩) ⟨57,27,57,40⟩) (.ix (.ix (.var 0 "term" ⟨57,42,57,46⟩) (.cst (.int 0) 0 ⟨57,47,57,48⟩) ⟨57,42,57,49⟩) (.cst (.int 1) 0 ⟨57,50,57,51⟩) ⟨57,42,57,52⟩) (.ix (.var 0 "term" ⟨57,54,57,58⟩) (.cst (.int 1) 0 ⟨57,59,57,60⟩) ⟨57,54,57,61⟩) 0 ⟨57,26,57,62⟩ ⟨57,4,57,62⟩)
  ((.cons (.ret (.tup (.cons (.tup (.cons (.var 1 "first" ⟨58,13,58,18⟩) (.cons (.var 3 "shared" ⟨58,20,58,26⟩) .nil)) 0 ⟨58,12,58,27⟩) (.cons (.tup (.cons (.var 2 "then" ⟨58,30,58,34⟩) (.cons (.var 3 "shared" ⟨58,36,58,42⟩) .nil)) 0 ⟨58,29,58,43⟩) .nil)) 0 ⟨58,11,58,44⟩) ⟨58,4,58,44⟩)
  .nil)))))
/-- ways_of -/
def b_ways_of : Ss := (.cons (.ite (.isi .str (.var 0 "term" ⟨60,18,60,22⟩) ⟨60,7,60,17⟩ ⟨60,24,60,27⟩ ⟨60,7,60,28⟩) (.cons (.ret (.lst .nil ⟨61,15,61,17⟩) ⟨61,8,61,17⟩)
  .nil) .nil ⟨60,4,61,17⟩)
  ((.cons (.setF 1 "found" (.ife (.call 8 "deed_of" (.cons (.var 0 "term" ⟨62,28,62,32⟩) .nil) ⟨62,20,62,27⟩ ⟨62,20,62,33⟩) (.cons (.tup .nil 0 ⟨62,13,62,15⟩) .nil) .nil ⟨62,12,62,16⟩ ⟨62,39,62,41⟩ ⟨62,12,62,41⟩) ⟨62,4,62,9⟩ ⟨62,4,62,41⟩)
  ((.cons (.ext 1 "found" (.comp (.bin .Add (.tup (.cons (.cst (.int 0) 0 ⟨63,19,63,20⟩) .nil) 0 ⟨63,18,63,22⟩) (.var 2 "way" ⟨63,25,63,28⟩) ⟨63,18,63,28⟩) (.one 2 "way" ⟨63,33,63,36⟩) (.seq (.call 10 "ways_of" (.cons (.ix (.var 0 "term" ⟨63,48,63,52⟩) (.cst (.int 0) 0 ⟨63,53,63,54⟩) ⟨63,48,63,55⟩) .nil) ⟨63,40,63,47⟩ ⟨63,40,63,56⟩)) .nil (cSc [(".0", .local), ("way", .local)]) [("way", 2)] ⟨63,17,63,57⟩) ⟨63,4,63,9⟩ ⟨63,4,63,16⟩ ⟨63,4,63,58⟩ ⟨63,4,63,58⟩)
  ((.fz 1 (.cons (.ret (.bin .Add (.var 1 "found" ⟨64,11,64,16⟩) (.comp (.bin .Add (.tup (.cons (.cst (.int 1) 0 ⟨64,21,64,22⟩) .nil) 0 ⟨64,20,64,24⟩) (.var 2 "way" ⟨64,27,64,30⟩) ⟨64,20,64,30⟩) (.one 2 "way" ⟨64,35,64,38⟩) (.seq (.call 10 "ways_of" (.cons (.ix (.var 0 "term" ⟨64,50,64,54⟩) (.cst (.int 1) 0 ⟨64,55,64,56⟩) ⟨64,50,64,57⟩) .nil) ⟨64,42,64,49⟩ ⟨64,42,64,58⟩)) .nil (cSc [(".0", .local), ("way", .local)]) [("way", 2)] ⟨64,19,64,59⟩) ⟨64,11,64,59⟩) ⟨64,4,64,59⟩)
  .nil))))))))
/-- part_at -/
def l_part_at_1 : Ss := (.cons (.ite (.bop .Or (.cons (.not (.isi .tuple (.var 0 "term" ⟨69,26,69,30⟩) ⟨69,15,69,25⟩ ⟨69,32,69,37⟩ ⟨69,15,69,38⟩) ⟨69,11,69,38⟩) (.cons (.not (.call 0 "is_within" (.cons (.var 2 "side" ⟨69,56,69,60⟩) (.cons (.cst (.int 0) 0 ⟨69,62,69,63⟩) (.cons (.cst (.int 1) 0 ⟨69,65,69,66⟩) .nil))) ⟨69,46,69,55⟩ ⟨69,46,69,67⟩) ⟨69,42,69,67⟩) .nil)) ⟨69,11,69,67⟩) (.cons (.ret (.cst .none 0 ⟨70,19,70,23⟩) ⟨70,12,70,23⟩)
  .nil) .nil ⟨69,8,70,23⟩)
  ((.cons (.set 0 "term" (.ix (.var 0 "term" ⟨71,15,71,19⟩) (.var 2 "side" ⟨71,20,71,24⟩) ⟨71,15,71,25⟩) ⟨71,8,71,12⟩ ⟨71,8,71,25⟩)
  .nil)))
def r_part_at_1 : Ss := (.cons (.ret (.var 0 "term" ⟨72,11,72,15⟩) ⟨72,4,72,15⟩)
  .nil)
def b_part_at : Ss := (.cons (.ite (.not (.isi .tuple (.var 1 "way" ⟨66,22,66,25⟩) ⟨66,11,66,21⟩ ⟨66,27,66,32⟩ ⟨66,11,66,33⟩) ⟨66,7,66,33⟩) (.cons (.ret (.cst .none 0 ⟨67,15,67,19⟩) ⟨67,8,67,19⟩)
  .nil) .nil ⟨66,4,67,19⟩)
  ((.cons (.for_ (.one 2 "side" ⟨68,8,68,12⟩) (.seq (.var 1 "way" ⟨68,16,68,19⟩)) l_part_at_1 ⟨68,4,71,25⟩)
  r_part_at_1)))
/-- with_part -/
def b_with_part : Ss := (.cons (.ite (.cmp .Eq (.var 1 "way" ⟨74,7,74,10⟩) (.tup .nil 0 ⟨74,14,74,16⟩) ⟨74,7,74,16⟩) (.cons (.ret (.var 2 "other" ⟨75,15,75,20⟩) ⟨75,8,75,20⟩)
  .nil) .nil ⟨74,4,75,20⟩)
  ((.cons (.ite (.cmp .Eq (.ix (.var 1 "way" ⟨76,7,76,10⟩) (.cst (.int 0) 0 ⟨76,11,76,12⟩) ⟨76,7,76,13⟩) (.cst (.int 0) 0 ⟨76,17,76,18⟩) ⟨76,7,76,18⟩) (.cons (.ret (.tup (.cons (.call 12 "with_part" (.cons (.ix (.var 0 "term" ⟨77,26,77,30⟩) (.cst (.int 0) 0 ⟨77,31,77,32⟩) ⟨77,26,77,33⟩) (.cons (.sl (.var 1 "way" ⟨77,35,77,38⟩) (.so (.cst (.int 1) 0 ⟨77,39,77,40⟩)) .no ⟨77,35,77,42⟩ ⟨77,39,77,41⟩) (.cons (.var 2 "other" ⟨77,44,77,49⟩) .nil))) ⟨77,16,77,25⟩ ⟨77,16,77,50⟩) (.cons (.ix (.var 0 "term" ⟨77,52,77,56⟩) (.cst (.int 1) 0 ⟨77,57,77,58⟩) ⟨77,52,77,59⟩) .nil)) 0 ⟨77,15,77,60⟩) ⟨77,8,77,60⟩)
  .nil) .nil ⟨76,4,77,60⟩)
  ((.cons (.ret (.tup (.cons (.ix (.var 0 "term" ⟨78,12,78,16⟩) (.cst (.int 0) 0 ⟨78,17,78,18⟩) ⟨78,12,78,19⟩) (.cons (.call 12 "with_part" (.cons (.ix (.var 0 "term" ⟨78,31,78,35⟩) (.cst (.int 1) 0 ⟨78,36,78,37⟩) ⟨78,31,78,38⟩) (.cons (.sl (.var 1 "way" ⟨78,40,78,43⟩) (.so (.cst (.int 1) 0 ⟨78,44,78,45⟩)) .no ⟨78,40,78,47⟩ ⟨78,44,78,46⟩) (.cons (.var 2 "other" ⟨78,49,78,54⟩) .nil))) ⟨78,21,78,30⟩ ⟨78,21,78,55⟩) .nil)) 0 ⟨78,11,78,56⟩) ⟨78,4,78,56⟩)
  .nil)))))
/-- look_way -/
def b_look_way : Ss := (.cons (.set 2 "found" (.call 11 "part_at" (.cons (.var 0 "term" ⟨80,20,80,24⟩) (.cons (.var 1 "way" ⟨80,26,80,29⟩) .nil)) ⟨80,12,80,19⟩ ⟨80,12,80,30⟩) ⟨80,4,80,9⟩ ⟨80,4,80,30⟩)
  ((.cons (.ite (.bop .Or (.cons (.cmp .Is (.var 2 "found" ⟨81,7,81,12⟩) (.cst .none 0 ⟨81,16,81,20⟩) ⟨81,7,81,20⟩) (.cons (.not (.call 8 "deed_of" (.cons (.var 2 "found" ⟨81,36,81,41⟩) .nil) ⟨81,28,81,35⟩ ⟨81,28,81,42⟩) ⟨81,24,81,42⟩) .nil)) ⟨81,7,81,42⟩) (.cons (.raisF 2 "BadWay" (.var 1 "way" ⟨82,21,82,24⟩) ⟨82,14,82,20⟩ ⟨82,14,82,25⟩ ⟨82,8,82,25⟩)
  .nil) .nil ⟨81,4,82,25⟩)
  ((.cons (.ret (.var 2 "found" ⟨83,11,83,16⟩) ⟨83,4,83,16⟩)
  .nil)))))
/-- step_to -/
def b_step_to : Ss := (.cons (.ret (.call 12 "with_part" (.cons (.var 0 "term" ⟨85,21,85,25⟩) (.cons (.var 1 "way" ⟨85,27,85,30⟩) (.cons (.call 9 "done" (.cons (.call 13 "look_way" (.cons (.var 0 "term" ⟨85,46,85,50⟩) (.cons (.var 1 "way" ⟨85,52,85,55⟩) .nil)) ⟨85,37,85,45⟩ ⟨85,37,85,56⟩) .nil) ⟨85,32,85,36⟩ ⟨85,32,85,57⟩) .nil))) ⟨85,11,85,20⟩ ⟨85,11,85,58⟩) ⟨85,4,85,58⟩)
  .nil)
/-- stepped -/
def b_stepped : Ss := (.cons (.ret (.call 6 "looked" (.cons (.call 14 "step_to" (.cons (.call 5 "checked" (.cons (.var 0 "term" ⟨87,34,87,38⟩) .nil) ⟨87,26,87,33⟩ ⟨87,26,87,39⟩) (.cons (.var 1 "way" ⟨87,41,87,44⟩) .nil)) ⟨87,18,87,25⟩ ⟨87,18,87,45⟩) .nil) ⟨87,11,87,17⟩ ⟨87,11,87,46⟩) ⟨87,4,87,46⟩)
  .nil)
/-- led -/
def l_led_1 : Ss := (.cons (.set 0 "term" (.call 6 "looked" (.cons (.call 14 "step_to" (.cons (.var 0 "term" ⟨91,30,91,34⟩) (.cons (.var 2 "way" ⟨91,36,91,39⟩) .nil)) ⟨91,22,91,29⟩ ⟨91,22,91,40⟩) .nil) ⟨91,15,91,21⟩ ⟨91,15,91,41⟩) ⟨91,8,91,12⟩ ⟨91,8,91,41⟩)
  .nil)
def r_led_1 : Ss := (.cons (.ret (.var 0 "term" ⟨92,11,92,15⟩) ⟨92,4,92,15⟩)
  .nil)
def b_led : Ss := (.cons (.expr (.call 5 "checked" (.cons (.var 0 "term" ⟨89,12,89,16⟩) .nil) ⟨89,4,89,11⟩ ⟨89,4,89,17⟩) ⟨89,4,89,17⟩)
  ((.cons (.for_ (.one 2 "way" ⟨90,8,90,11⟩) (.seq (.var 1 "row" ⟨90,15,90,18⟩)) l_led_1 ⟨90,4,91,41⟩)
  r_led_1)))
/-- played -/
def l_played_1 : Ss := (.cons (.set 3 "some" (.call 10 "ways_of" (.cons (.var 0 "term" ⟨99,23,99,27⟩) .nil) ⟨99,15,99,22⟩ ⟨99,15,99,28⟩) ⟨99,8,99,12⟩ ⟨99,8,99,28⟩)
  ((.cons (.ite (.bop .Or (.cons (.not (.var 3 "some" ⟨100,15,100,19⟩) ⟨100,11,100,19⟩) (.cons (.not (.call 4 "is_term" (.cons (.call 14 "step_to" (.cons (.var 0 "term" ⟨100,43,100,47⟩) (.cons (.ix (.var 3 "some" ⟨100,49,100,53⟩) (.cst (.int 0) 0 ⟨100,54,100,55⟩) ⟨100,49,100,56⟩) .nil)) ⟨100,35,100,42⟩ ⟨100,35,100,57⟩) .nil) ⟨100,27,100,34⟩ ⟨100,27,100,58⟩) ⟨100,23,100,58⟩) .nil)) ⟨100,11,100,58⟩) (.fz 2 (.cons (.ret (.tup (.cons (.var 0 "term" ⟨101,20,101,24⟩) (.cons (.var 2 "row" ⟨101,26,101,29⟩) .nil)) 0 ⟨101,19,101,30⟩) ⟨101,12,101,30⟩)
  .nil)) .nil ⟨100,8,101,30⟩)
  ((.cons (.app 2 "row" (.ix (.var 3 "some" ⟨102,19,102,23⟩) (.cst (.int 0) 0 ⟨102,24,102,25⟩) ⟨102,19,102,26⟩) ⟨102,8,102,11⟩ ⟨102,8,102,18⟩ ⟨102,8,102,27⟩ ⟨102,8,102,27⟩)
  ((.cons (.set 0 "term" (.call 14 "step_to" (.cons (.var 0 "term" ⟨103,23,103,27⟩) (.cons (.ix (.var 3 "some" ⟨103,29,103,33⟩) (.cst (.int 0) 0 ⟨103,34,103,35⟩) ⟨103,29,103,36⟩) .nil)) ⟨103,15,103,22⟩ ⟨103,15,103,37⟩) ⟨103,8,103,12⟩ ⟨103,8,103,37⟩)
  .nil)))))))
def r_played_1 : Ss := (.fz 2 (.cons (.ret (.tup (.cons (.var 0 "term" ⟨104,12,104,16⟩) (.cons (.var 2 "row" ⟨104,18,104,21⟩) .nil)) 0 ⟨104,11,104,22⟩) ⟨104,4,104,22⟩)
  .nil))
def b_played : Ss := (.cons (.expr (.call 5 "checked" (.cons (.var 0 "term" ⟨94,12,94,16⟩) .nil) ⟨94,4,94,11⟩ ⟨94,4,94,17⟩) ⟨94,4,94,17⟩)
  ((.cons (.ite (.not (.call 0 "is_within" (.cons (.var 1 "most" ⟨95,21,95,25⟩) (.cons (.cst (.int 0) 0 ⟨95,27,95,28⟩) (.cons (.glob 2 "MOST_PLAYED" ⟨95,30,95,41⟩) .nil))) ⟨95,11,95,20⟩ ⟨95,11,95,42⟩) ⟨95,7,95,42⟩) (.cons (.rais 3 "BadCount" "no number of steps" 0 ⟨96,14,96,22⟩ ⟨96,23,96,43⟩ ⟨96,14,96,44⟩ ⟨96,8,96,44⟩)
  .nil) .nil ⟨95,4,96,44⟩)
  ((.cons (.setF 2 "row" (.lst .nil ⟨97,10,97,12⟩) ⟨97,4,97,7⟩ ⟨97,4,97,12⟩)
  ((.cons (.while_ (.cmp .Lt (.leno 2 "row" ⟨98,10,98,13⟩ ⟨98,14,98,17⟩ ⟨98,10,98,18⟩) (.var 1 "most" ⟨98,21,98,25⟩) ⟨98,10,98,25⟩) l_played_1 ⟨98,4,103,37⟩)
  r_played_1)))))))
/-- below -/
def b_below : Ss := (.cons (.ret (.comp (.sl (.var 2 "one" ⟨107,12,107,15⟩) (.so (.bi .len (.var 1 "way" ⟨107,20,107,23⟩) ⟨107,16,107,19⟩ ⟨107,16,107,24⟩)) .no ⟨107,12,107,26⟩ ⟨107,16,107,25⟩) (.one 2 "one" ⟨107,31,107,34⟩) (.seq (.var 0 "some" ⟨107,38,107,42⟩)) (.cons (.cmp .Eq (.sl (.var 2 "one" ⟨107,46,107,49⟩) .no (.so (.bi .len (.var 1 "way" ⟨107,55,107,58⟩) ⟨107,51,107,54⟩ ⟨107,51,107,59⟩)) ⟨107,46,107,60⟩ ⟨107,50,107,59⟩) (.var 1 "way" ⟨107,64,107,67⟩) ⟨107,46,107,67⟩) .nil) (cSc [(".0", .local), ("one", .local), ("len", .globalImplicit), ("way", .free)]) [("one", 2)] ⟨107,11,107,68⟩) ⟨107,4,107,68⟩)
  .nil)
/-- look_ways -/
def l_look_ways_1 : Ss := (.cons (.expr (.call 13 "look_way" (.cons (.var 0 "term" ⟨110,17,110,21⟩) (.cons (.var 3 "way" ⟨110,23,110,26⟩) .nil)) ⟨110,8,110,16⟩ ⟨110,8,110,27⟩) ⟨110,8,110,27⟩)
  ((.cons (.ite (.cmp .In (.var 3 "way" ⟨111,11,111,14⟩) (.sl (.var 1 "some" ⟨111,18,111,22⟩) .no (.so (.var 2 "at" ⟨111,24,111,26⟩)) ⟨111,18,111,27⟩ ⟨111,23,111,26⟩) ⟨111,11,111,27⟩) (.cons (.raisF 2 "BadWay" (.var 3 "way" ⟨112,25,112,28⟩) ⟨112,18,112,24⟩ ⟨112,18,112,29⟩ ⟨112,12,112,29⟩)
  .nil) .nil ⟨111,8,112,29⟩)
  .nil)))
def b_look_ways : Ss := (.cons (.for_ (.two 2 "at" ⟨109,8,109,10⟩ 3 "way" ⟨109,12,109,15⟩ 0 ⟨109,8,109,15⟩) (.enum (.var 1 "some" ⟨109,29,109,33⟩) ⟨109,19,109,28⟩ ⟨109,19,109,34⟩) l_look_ways_1 ⟨109,4,112,29⟩)
  .nil)
/-- all_done -/
def b_all_done : Ss := (.cons (.ite (.bop .Or (.cons (.isi .str (.var 0 "term" ⟨114,18,114,22⟩) ⟨114,7,114,17⟩ ⟨114,24,114,27⟩ ⟨114,7,114,28⟩) (.cons (.not (.var 1 "some" ⟨114,36,114,40⟩) ⟨114,32,114,40⟩) .nil)) ⟨114,7,114,40⟩) (.cons (.ret (.var 0 "term" ⟨115,15,115,19⟩) ⟨115,8,115,19⟩)
  .nil) .nil ⟨114,4,115,19⟩)
  ((.cons (.ite (.cmp .NotIn (.tup .nil 0 ⟨116,7,116,9⟩) (.var 1 "some" ⟨116,17,116,21⟩) ⟨116,7,116,21⟩) (.cons (.ret (.tup (.cons (.call 20 "all_done" (.cons (.ix (.var 0 "term" ⟨117,25,117,29⟩) (.cst (.int 0) 0 ⟨117,30,117,31⟩) ⟨117,25,117,32⟩) (.cons (.call 18 "below" (.cons (.var 1 "some" ⟨117,40,117,44⟩) (.cons (.tup (.cons (.cst (.int 0) 0 ⟨117,47,117,48⟩) .nil) 0 ⟨117,46,117,50⟩) .nil)) ⟨117,34,117,39⟩ ⟨117,34,117,51⟩) .nil)) ⟨117,16,117,24⟩ ⟨117,16,117,52⟩) (.cons (.call 20 "all_done" (.cons (.ix (.var 0 "term" ⟨117,63,117,67⟩) (.cst (.int 1) 0 ⟨117,68,117,69⟩) ⟨117,63,117,70⟩) (.cons (.call 18 "below" (.cons (.var 1 "some" ⟨117,78,117,82⟩) (.cons (.tup (.cons (.cst (.int 1) 0 ⟨117,85,117,86⟩) .nil) 0 ⟨117,84,117,88⟩) .nil)) ⟨117,72,117,77⟩ ⟨117,72,117,89⟩) .nil)) ⟨117,54,117,62⟩ ⟨117,54,117,90⟩) .nil)) 0 ⟨117,15,117,91⟩) ⟨117,8,117,91⟩)
  .nil) .nil ⟨116,4,117,91⟩)
  ((.cons (.ite (.cmp .Eq (.ix (.ix (.var 0 "term" ⟨118,7,118,11⟩) (.cst (.int 0) 0 ⟨118,12,118,13⟩) ⟨118,7,118,14⟩) (.cst (.int 0) 0 ⟨118,15,118,16⟩) ⟨118,7,118,17⟩) (.cst (.str "K") 0 ⟨118,21,118,24⟩) ⟨118,7,118,24⟩) (.cons (.ret (.call 20 "all_done" (.cons (.ix (.ix (.var 0 "term" ⟨119,24,119,28⟩) (.cst (.int 0) 0 ⟨119,29,119,30⟩) ⟨119,24,119,31⟩) (.cst (.int 1) 0 ⟨119,32,119,33⟩) ⟨119,24,119,34⟩) (.cons (.call 18 "below" (.cons (.var 1 "some" ⟨119,42,119,46⟩) (.cons (.tup (.cons (.cst (.int 0) 0 ⟨119,49,119,50⟩) (.cons (.cst (.int 1) 0 ⟨119,52,119,53⟩) .nil)) 0 ⟨119,48,119,54⟩) .nil)) ⟨119,36,119,41⟩ ⟨119,36,119,55⟩) .nil)) ⟨119,15,119,23⟩ ⟨119,15,119,56⟩) ⟨119,8,119,56⟩)
  .nil) .nil ⟨118,4,119,56⟩)
  ((.cons (.set 2 "first" (.call 20 "all_done" (.cons (.ix (.ix (.ix (.var 0 "term" ⟨120,21,120,25⟩) (.cst (.int 0) 0 ⟨120,26,120,27⟩) ⟨120,21,120,28⟩) (.cst (.int 0) 0 ⟨120,29,120,30⟩) ⟨120,21,120,31⟩) (.cst (.int 1) 0 ⟨120,32,120,33⟩) ⟨120,21,120,34⟩) (.cons (.call 18 "below" (.cons (.var 1 "some" ⟨120,42,120,46⟩) (.cons (.tup (.cons (.cst (.int 0) 0 ⟨120,49,120,50⟩) (.cons (.cst (.int 0) 0 ⟨120,52,120,53⟩) (.cons (.cst (.int 1) 0 ⟨120,55,120,56⟩) .nil))) 0 ⟨120,48,120,57⟩) .nil)) ⟨120,36,120,41⟩ ⟨120,36,120,58⟩) .nil)) ⟨120,12,120,20⟩ ⟨120,12,120,59⟩) ⟨120,4,120,9⟩ ⟨120,4,120,59⟩)
  ((.cons (.set 3 "then" (.call 20 "all_done" (.cons (.ix (.ix (.var 0 "term" ⟨121,20,121,24⟩) (.cst (.int 0) 0 ⟨121,25,121,26⟩) ⟨121,20,121,27⟩) (.cst (.int 1) 0 ⟨121,28,121,29⟩) ⟨121,20,121,30⟩) (.cons (.call 18 "below" (.cons (.var 1 "some" ⟨121,38,121,42⟩) (.cons (.tup (.cons (.cst (.int 0) 0 ⟨121,45,121,46⟩) (.cons (.cst (.int 1) 0 ⟨121,48,121,49⟩) .nil)) 0 ⟨121,44,121,50⟩) .nil)) ⟨121,32,121,37⟩ ⟨121,32,121,51⟩) .nil)) ⟨121,11,121,19⟩ ⟨121,11,121,52⟩) ⟨121,4,121,8⟩ ⟨121,4,121,52⟩)
  ((.cons (.set 4 "shared" (.call 20 "all_done" (.cons (.ix (.var 0 "term" ⟨122,22,122,26⟩) (.cst (.int 1) 0 ⟨122,27,122,28⟩) ⟨122,22,122,29⟩) (.cons (.call 18 "below" (.cons (.var 1 "some" ⟨122,37,122,41⟩) (.cons (.tup (.cons (.cst (.int 1) 0 ⟨122,44,122,45⟩) .nil) 0 ⟨122,43,122,47⟩) .nil)) ⟨122,31,122,36⟩ ⟨122,31,122,48⟩) .nil)) ⟨122,13,122,21⟩ ⟨122,13,122,49⟩) ⟨122,4,122,10⟩ ⟨122,4,122,49⟩)
  ((.cons (.ret (.tup (.cons (.tup (.cons (.var 2 "first" ⟨123,13,123,18⟩) (.cons (.var 4 "shared" ⟨123,20,123,26⟩) .nil)) 0 ⟨123,12,123,27⟩) (.cons (.tup (.cons (.var 3 "then" ⟨123,30,123,34⟩) (.cons (.var 4 "shared" ⟨123,36,123,42⟩) .nil)) 0 ⟨123,29,123,43⟩) .nil)) 0 ⟨123,11,123,44⟩) ⟨123,4,123,44⟩)
  .nil)))))))))))))
/-- moved -/
def b_moved : Ss := (.cons (.ret (.comp (.bin .Add (.var 0 "way" ⟨125,12,125,15⟩) (.var 2 "one" ⟨125,18,125,21⟩) ⟨125,12,125,21⟩) (.one 2 "one" ⟨125,26,125,29⟩) (.seq (.var 1 "some" ⟨125,33,125,37⟩)) .nil (cSc [(".0", .local), ("one", .local), ("way", .free)]) [("one", 2)] ⟨125,11,125,38⟩) ⟨125,4,125,38⟩)
  .nil)
/-- left -/
def l_left_1 : Ss := (.cons (.set 5 "inner" (.call 22 "left" (.cons (.ix (.var 0 "term" ⟨132,25,132,29⟩) (.var 4 "side" ⟨132,30,132,34⟩) ⟨132,25,132,35⟩) (.cons (.call 18 "below" (.cons (.var 1 "some" ⟨132,43,132,47⟩) (.cons (.tup (.cons (.var 4 "side" ⟨132,50,132,54⟩) .nil) 0 ⟨132,49,132,56⟩) .nil)) ⟨132,37,132,42⟩ ⟨132,37,132,57⟩) (.cons (.call 18 "below" (.cons (.var 2 "others" ⟨132,65,132,71⟩) (.cons (.tup (.cons (.var 4 "side" ⟨132,74,132,78⟩) .nil) 0 ⟨132,73,132,80⟩) .nil)) ⟨132,59,132,64⟩ ⟨132,59,132,81⟩) .nil))) ⟨132,20,132,24⟩ ⟨132,20,132,82⟩) ⟨132,12,132,17⟩ ⟨132,12,132,82⟩)
  ((.cons (.ext 3 "found" (.call 21 "moved" (.cons (.tup (.cons (.var 4 "side" ⟨133,32,133,36⟩) .nil) 0 ⟨133,31,133,38⟩) (.cons (.var 5 "inner" ⟨133,40,133,45⟩) .nil)) ⟨133,25,133,30⟩ ⟨133,25,133,46⟩) ⟨133,12,133,17⟩ ⟨133,12,133,24⟩ ⟨133,12,133,47⟩ ⟨133,12,133,47⟩)
  .nil)))
def r_left_1 : Ss := (.fz 3 (.cons (.ret (.var 3 "found" ⟨134,15,134,20⟩) ⟨134,8,134,20⟩)
  .nil))
def b_left : Ss := (.cons (.ite (.bop .Or (.cons (.isi .str (.var 0 "term" ⟨127,18,127,22⟩) ⟨127,7,127,17⟩ ⟨127,24,127,27⟩ ⟨127,7,127,28⟩) (.cons (.not (.var 2 "others" ⟨127,36,127,42⟩) ⟨127,32,127,42⟩) .nil)) ⟨127,7,127,42⟩) (.cons (.ret (.lst .nil ⟨128,15,128,17⟩) ⟨128,8,128,17⟩)
  .nil) .nil ⟨127,4,128,17⟩)
  ((.cons (.ite (.cmp .NotIn (.tup .nil 0 ⟨129,7,129,9⟩) (.var 1 "some" ⟨129,17,129,21⟩) ⟨129,7,129,21⟩) (.cons (.setF 3 "found" (.ife (.cmp .In (.tup .nil 0 ⟨130,24,130,26⟩) (.var 2 "others" ⟨130,30,130,36⟩) ⟨130,24,130,36⟩) (.cons (.tup .nil 0 ⟨130,17,130,19⟩) .nil) .nil ⟨130,16,130,20⟩ ⟨130,42,130,44⟩ ⟨130,16,130,44⟩) ⟨130,8,130,13⟩ ⟨130,8,130,44⟩)
  ((.cons (.for_ (.one 4 "side" ⟨131,12,131,16⟩) (.rng (.cons (.cst (.int 2) 0 ⟨131,26,131,27⟩) .nil) ⟨131,20,131,25⟩ ⟨131,20,131,28⟩) l_left_1 ⟨131,8,133,47⟩)
  r_left_1))) .nil ⟨129,4,134,20⟩)
  ((.cons (.ite (.cmp .Eq (.ix (.ix (.var 0 "term" ⟨135,7,135,11⟩) (.cst (.int 0) 0 ⟨135,12,135,13⟩) ⟨135,7,135,14⟩) (.cst (.int 0) 0 ⟨135,15,135,16⟩) ⟨135,7,135,17⟩) (.cst (.str "K") 0 ⟨135,21,135,24⟩) ⟨135,7,135,24⟩) (.cons (.ret (.call 22 "left" (.cons (.ix (.ix (.var 0 "term" ⟨136,20,136,24⟩) (.cst (.int 0) 0 ⟨136,25,136,26⟩) ⟨136,20,136,27⟩) (.cst (.int 1) 0 ⟨136,28,136,29⟩) ⟨136,20,136,30⟩) (.cons (.call 18 "below" (.cons (.var 1 "some" ⟨136,38,136,42⟩) (.cons (.tup (.cons (.cst (.int 0) 0 ⟨136,45,136,46⟩) (.cons (.cst (.int 1) 0 ⟨136,48,136,49⟩) .nil)) 0 ⟨136,44,136,50⟩) .nil)) ⟨136,32,136,37⟩ ⟨136,32,136,51⟩) (.cons (.call 18 "below" (.cons (.var 2 "others" ⟨136,59,136,65⟩) (.cons (.tup (.cons (.cst (.int 0) 0 ⟨136,68,136,69⟩) (.cons (.cst (.int 1) 0 ⟨136,71,136,72⟩) .nil)) 0 ⟨136,67,136,73⟩) .nil)) ⟨136,53,136,58⟩ ⟨136,53,136,74⟩) .nil))) ⟨136,15,136,19⟩ ⟨136,15,136,75⟩) ⟨136,8,136,75⟩)
  .nil) .nil ⟨135,4,136,75⟩)
  ((.cons (.set 6 "first" (.call 22 "left" (.cons (.ix (.ix (.ix (.var 0 "term" ⟨137,17,137,21⟩) (.cst (.int 0) 0 ⟨137,22,137,23⟩) ⟨137,17,137,24⟩) (.cst (.int 0) 0 ⟨137,25,137,26⟩) ⟨137,17,137,27⟩) (.cst (.int 1) 0 ⟨137,28,137,29⟩) ⟨137,17,137,30⟩) (.cons (.call 18 "below" (.cons (.var 1 "some" ⟨137,38,137,42⟩) (.cons (.tup (.cons (.cst (.int 0) 0 ⟨137,45,137,46⟩) (.cons (.cst (.int 0) 0 ⟨137,48,137,49⟩) (.cons (.cst (.int 1) 0 ⟨137,51,137,52⟩) .nil))) 0 ⟨137,44,137,53⟩) .nil)) ⟨137,32,137,37⟩ ⟨137,32,137,54⟩) (.cons (.call 18 "below" (.cons (.var 2 "others" ⟨137,62,137,68⟩) (.cons (.tup (.cons (.cst (.int 0) 0 ⟨137,71,137,72⟩) (.cons (.cst (.int 0) 0 ⟨137,74,137,75⟩) (.cons (.cst (.int 1) 0 ⟨137,77,137,78⟩) .nil))) 0 ⟨137,70,137,79⟩) .nil)) ⟨137,56,137,61⟩ ⟨137,56,137,80⟩) .nil))) ⟨137,12,137,16⟩ ⟨137,12,137,81⟩) ⟨137,4,137,9⟩ ⟨137,4,137,81⟩)
  ((.cons (.set 7 "then" (.call 22 "left" (.cons (.ix (.ix (.var 0 "term" ⟨138,16,138,20⟩) (.cst (.int 0) 0 ⟨138,21,138,22⟩) ⟨138,16,138,23⟩) (.cst (.int 1) 0 ⟨138,24,138,25⟩) ⟨138,16,138,26⟩) (.cons (.call 18 "below" (.cons (.var 1 "some" ⟨138,34,138,38⟩) (.cons (.tup (.cons (.cst (.int 0) 0 ⟨138,41,138,42⟩) (.cons (.cst (.int 1) 0 ⟨138,44,138,45⟩) .nil)) 0 ⟨138,40,138,46⟩) .nil)) ⟨138,28,138,33⟩ ⟨138,28,138,47⟩) (.cons (.call 18 "below" (.cons (.var 2 "others" ⟨138,55,138,61⟩) (.cons (.tup (.cons (.cst (.int 0) 0 ⟨138,64,138,65⟩) (.cons (.cst (.int 1) 0 ⟨138,67,138,68⟩) .nil)) 0 ⟨138,63,138,69⟩) .nil)) ⟨138,49,138,54⟩ ⟨138,49,138,70⟩) .nil))) ⟨138,11,138,15⟩ ⟨138,11,138,71⟩) ⟨138,4,138,8⟩ ⟨138,4,138,71⟩)
  ((.cons (.set 8 "shared" (.call 22 "left" (.cons (.ix (.var 0 "term" ⟨139,18,139,22⟩) (.cst (.int 1) 0 ⟨139,23,139,24⟩) ⟨139,18,139,25⟩) (.cons (.call 18 "below" (.cons (.var 1 "some" ⟨139,33,139,37⟩) (.cons (.tup (.cons (.cst (.int 1) 0 ⟨139,40,139,41⟩) .nil) 0 ⟨139,39,139,43⟩) .nil)) ⟨139,27,139,32⟩ ⟨139,27,139,44⟩) (.cons (.call 18 "below" (.cons (.var 2 "others" ⟨139,52,139,58⟩) (.cons (.tup (.cons (.cst (.int 1) 0 ⟨139,61,139,62⟩) .nil) 0 ⟨139,60,139,64⟩) .nil)) ⟨139,46,139,51⟩ ⟨139,46,139,65⟩) .nil))) ⟨139,13,139,17⟩ ⟨139,13,139,66⟩) ⟨139,4,139,10⟩ ⟨139,4,139,66⟩)
  ((.cons (.ret (.bin .Add (.bin .Add (.bin .Add (.call 21 "moved" (.cons (.tup (.cons (.cst (.int 0) 0 ⟨140,18,140,19⟩) (.cons (.cst (.int 0) 0 ⟨140,21,140,22⟩) .nil)) 0 ⟨140,17,140,23⟩) (.cons (.var 6 "first" ⟨140,25,140,30⟩) .nil)) ⟨140,11,140,16⟩ ⟨140,11,140,31⟩) (.call 21 "moved" (.cons (.tup (.cons (.cst (.int 0) 0 ⟨140,41,140,42⟩) (.cons (.cst (.int 1) 0 ⟨140,44,140,45⟩) .nil)) 0 ⟨140,40,140,46⟩) (.cons (.var 8 "shared" ⟨140,48,140,54⟩) .nil)) ⟨140,34,140,39⟩ ⟨140,34,140,55⟩) ⟨140,11,140,55⟩) (.call 21 "moved" (.cons (.tup (.cons (.cst (.int 1) 0 ⟨140,65,140,66⟩) (.cons (.cst (.int 0) 0 ⟨140,68,140,69⟩) .nil)) 0 ⟨140,64,140,70⟩) (.cons (.var 7 "then" ⟨140,72,140,76⟩) .nil)) ⟨140,58,140,63⟩ ⟨140,58,140,77⟩) ⟨140,11,140,77⟩) (.call 21 "moved" (.cons (.tup (.cons (.cst (.int 1) 0 ⟨140,87,140,88⟩) (.cons (.cst (.int 1) 0 ⟨140,90,140,91⟩) .nil)) 0 ⟨140,86,140,92⟩) (.cons (.var 8 "shared" ⟨140,94,140,100⟩) .nil)) ⟨140,80,140,85⟩ ⟨140,80,140,101⟩) ⟨140,11,140,101⟩) ⟨140,4,140,101⟩)
  .nil)))))))))))))
/-- walked -/
def l_walked_1 : Ss := (.cons (.expr (.call 19 "look_ways" (.cons (.var 0 "term" ⟨146,18,146,22⟩) (.cons (.var 2 "some" ⟨146,24,146,28⟩) .nil)) ⟨146,8,146,17⟩ ⟨146,8,146,29⟩) ⟨146,8,146,29⟩)
  ((.cons (.set 0 "term" (.call 6 "looked" (.cons (.call 20 "all_done" (.cons (.var 0 "term" ⟨147,31,147,35⟩) (.cons (.var 2 "some" ⟨147,37,147,41⟩) .nil)) ⟨147,22,147,30⟩ ⟨147,22,147,42⟩) .nil) ⟨147,15,147,21⟩ ⟨147,15,147,43⟩) ⟨147,8,147,12⟩ ⟨147,8,147,43⟩)
  .nil)))
def r_walked_1 : Ss := (.cons (.ret (.var 0 "term" ⟨148,11,148,15⟩) ⟨148,4,148,15⟩)
  .nil)
def b_walked : Ss := (.cons (.expr (.call 5 "checked" (.cons (.var 0 "term" ⟨144,12,144,16⟩) .nil) ⟨144,4,144,11⟩ ⟨144,4,144,17⟩) ⟨144,4,144,17⟩)
  ((.cons (.for_ (.one 2 "some" ⟨145,8,145,12⟩) (.seq (.var 1 "rows" ⟨145,16,145,20⟩)) l_walked_1 ⟨145,4,147,43⟩)
  r_walked_1)))
/-- woven -/
def l_woven_2 : Ss := (.cons (.expr (.call 6 "looked" (.cons (.call 20 "all_done" (.cons (.var 5 "here" ⟨156,28,156,32⟩) (.cons (.var 6 "side" ⟨156,34,156,38⟩) .nil)) ⟨156,19,156,27⟩ ⟨156,19,156,39⟩) .nil) ⟨156,12,156,18⟩ ⟨156,12,156,40⟩) ⟨156,12,156,40⟩)
  ((.cons (.set 9 "ahead" (.call 6 "looked" (.cons (.call 20 "all_done" (.cons (.var 5 "here" ⟨157,36,157,40⟩) (.cons (.var 8 "one" ⟨157,42,157,45⟩) .nil)) ⟨157,27,157,35⟩ ⟨157,27,157,46⟩) .nil) ⟨157,20,157,26⟩ ⟨157,20,157,47⟩) ⟨157,12,157,17⟩ ⟨157,12,157,47⟩)
  ((.cons (.app 7 "lower" (.call 22 "left" (.cons (.var 5 "here" ⟨158,30,158,34⟩) (.cons (.var 6 "side" ⟨158,36,158,40⟩) (.cons (.var 8 "one" ⟨158,42,158,45⟩) .nil))) ⟨158,25,158,29⟩ ⟨158,25,158,46⟩) ⟨158,12,158,17⟩ ⟨158,12,158,24⟩ ⟨158,12,158,47⟩ ⟨158,12,158,47⟩)
  ((.cons (.set 6 "side" (.call 22 "left" (.cons (.var 5 "here" ⟨159,24,159,28⟩) (.cons (.var 8 "one" ⟨159,30,159,33⟩) (.cons (.var 6 "side" ⟨159,35,159,39⟩) .nil))) ⟨159,19,159,23⟩ ⟨159,19,159,40⟩) ⟨159,12,159,16⟩ ⟨159,12,159,40⟩)
  ((.cons (.set 5 "here" (.var 9 "ahead" ⟨160,19,160,24⟩) ⟨160,12,160,16⟩ ⟨160,12,160,24⟩)
  .nil)))))))))
def r_woven_2 : Ss := (.cons (.app 3 "column" (.var 6 "side" ⟨161,22,161,26⟩) ⟨161,8,161,14⟩ ⟨161,8,161,21⟩ ⟨161,8,161,27⟩ ⟨161,8,161,27⟩)
  ((.cons (.expr (.call 6 "looked" (.cons (.call 20 "all_done" (.cons (.var 5 "here" ⟨162,24,162,28⟩) (.cons (.var 6 "side" ⟨162,30,162,34⟩) .nil)) ⟨162,15,162,23⟩ ⟨162,15,162,35⟩) .nil) ⟨162,8,162,14⟩ ⟨162,8,162,36⟩) ⟨162,8,162,36⟩)
  ((.cons (.set 0 "term" (.call 6 "looked" (.cons (.call 20 "all_done" (.cons (.var 0 "term" ⟨163,31,163,35⟩) (.cons (.var 4 "some" ⟨163,37,163,41⟩) .nil)) ⟨163,22,163,30⟩ ⟨163,22,163,42⟩) .nil) ⟨163,15,163,21⟩ ⟨163,15,163,43⟩) ⟨163,8,163,12⟩ ⟨163,8,163,43⟩)
  ((.fz 7 (.cons (.set 1 "ones" (.var 7 "lower" ⟨164,15,164,20⟩) ⟨164,8,164,12⟩ ⟨164,8,164,20⟩)
  .nil))))))))
def l_woven_1 : Ss := (.cons (.set 5 "here" (.var 0 "term" ⟨152,15,152,19⟩) ⟨152,8,152,12⟩ ⟨152,8,152,19⟩)
  ((.cons (.set 6 "side" (.var 4 "some" ⟨153,15,153,19⟩) ⟨153,8,153,12⟩ ⟨153,8,153,19⟩)
  ((.cons (.setF 7 "lower" (.lst .nil ⟨154,16,154,18⟩) ⟨154,8,154,13⟩ ⟨154,8,154,18⟩)
  ((.cons (.for_ (.one 8 "one" ⟨155,12,155,15⟩) (.seq (.var 1 "ones" ⟨155,19,155,23⟩)) l_woven_2 ⟨155,8,160,24⟩)
  r_woven_2)))))))
def r_woven_1 : Ss := (.fz 3 (.cons (.ret (.tup (.cons (.var 1 "ones" ⟨165,12,165,16⟩) (.cons (.var 3 "column" ⟨165,18,165,24⟩) .nil)) 0 ⟨165,11,165,25⟩) ⟨165,4,165,25⟩)
  .nil))
def b_woven : Ss := (.cons (.setF 3 "column" (.lst .nil ⟨150,13,150,15⟩) ⟨150,4,150,10⟩ ⟨150,4,150,15⟩)
  ((.cons (.for_ (.one 4 "some" ⟨151,8,151,12⟩) (.seq (.var 2 "others" ⟨151,16,151,22⟩)) l_woven_1 ⟨151,4,164,20⟩)
  r_woven_1)))
/-- meet -/
def b_meet : Ss := (.cons (.ite (.bop .Or (.cons (.cmp .Gt (.bi .len (.var 1 "one" ⟨167,11,167,14⟩) ⟨167,7,167,10⟩ ⟨167,7,167,15⟩) (.glob 3 "MOST_ROW" ⟨167,18,167,26⟩) ⟨167,7,167,26⟩) (.cons (.cmp .Gt (.bi .len (.var 2 "other" ⟨167,34,167,39⟩) ⟨167,30,167,33⟩ ⟨167,30,167,40⟩) (.glob 3 "MOST_ROW" ⟨167,43,167,51⟩) ⟨167,30,167,51⟩) .nil)) ⟨167,7,167,51⟩) (.cons (.rais 3 "BadCount" "too many steps" 0 ⟨168,14,168,22⟩ ⟨168,23,168,39⟩ ⟨168,14,168,40⟩ ⟨168,8,168,40⟩)
  .nil) .nil ⟨167,4,168,40⟩)
  ((.cons (.set 3 "first" (.call 16 "led" (.cons (.var 0 "term" ⟨169,16,169,20⟩) (.cons (.var 1 "one" ⟨169,22,169,25⟩) .nil)) ⟨169,12,169,15⟩ ⟨169,12,169,26⟩) ⟨169,4,169,9⟩ ⟨169,4,169,26⟩)
  ((.cons (.expr (.call 16 "led" (.cons (.var 0 "term" ⟨170,8,170,12⟩) (.cons (.var 2 "other" ⟨170,14,170,19⟩) .nil)) ⟨170,4,170,7⟩ ⟨170,4,170,20⟩) ⟨170,4,170,20⟩)
  ((.cons (.unp (.two 4 "behind" ⟨171,4,171,10⟩ 5 "ahead" ⟨171,12,171,17⟩ 0 ⟨171,4,171,17⟩) (.call 24 "woven" (.cons (.var 0 "term" ⟨171,26,171,30⟩) (.cons (.comp (.lst (.cons (.var 6 "way" ⟨171,34,171,37⟩) .nil) ⟨171,33,171,38⟩) (.one 6 "way" ⟨171,43,171,46⟩) (.seq (.var 1 "one" ⟨171,50,171,53⟩)) .nil (cSc [(".0", .local), ("way", .local)]) [("way", 6)] ⟨171,32,171,54⟩) (.cons (.comp (.lst (.cons (.var 6 "way" ⟨171,58,171,61⟩) .nil) ⟨171,57,171,62⟩) (.one 6 "way" ⟨171,67,171,70⟩) (.seq (.var 2 "other" ⟨171,74,171,79⟩)) .nil (cSc [(".0", .local), ("way", .local)]) [("way", 6)] ⟨171,56,171,80⟩) .nil))) ⟨171,20,171,25⟩ ⟨171,20,171,81⟩) ⟨171,4,171,81⟩)
  ((.cons (.ret (.tup (.cons (.call 23 "walked" (.cons (.var 3 "first" ⟨172,19,172,24⟩) (.cons (.var 5 "ahead" ⟨172,26,172,31⟩) .nil)) ⟨172,12,172,18⟩ ⟨172,12,172,32⟩) (.cons (.var 5 "ahead" ⟨172,34,172,39⟩) (.cons (.var 4 "behind" ⟨172,41,172,47⟩) .nil))) 0 ⟨172,11,172,48⟩) ⟨172,4,172,48⟩)
  .nil)))))))))
/-- line_to -/
def b_line_to : Ss := (.cons (.ite (.bop .Or (.cons (.not (.isi .tuple (.var 1 "line" ⟨176,22,176,26⟩) ⟨176,11,176,21⟩ ⟨176,28,176,33⟩ ⟨176,11,176,34⟩) ⟨176,7,176,34⟩) (.cons (.not (.var 1 "line" ⟨176,42,176,46⟩) ⟨176,38,176,46⟩) .nil)) ⟨176,7,176,46⟩) (.cons (.ret (.cst .none 0 ⟨177,15,177,19⟩) ⟨177,8,177,19⟩)
  .nil) .nil ⟨176,4,177,19⟩)
  ((.cons (.ite (.bop .And (.cons (.cmp .Eq (.ix (.var 1 "line" ⟨178,7,178,11⟩) (.cst (.int 0) 0 ⟨178,12,178,13⟩) ⟨178,7,178,14⟩) (.cst (.str "on") 0 ⟨178,18,178,22⟩) ⟨178,7,178,22⟩) (.cons (.cmp .Eq (.bi .len (.var 1 "line" ⟨178,31,178,35⟩) ⟨178,27,178,30⟩ ⟨178,27,178,36⟩) (.cst (.int 2) 0 ⟨178,40,178,41⟩) ⟨178,27,178,41⟩) .nil)) ⟨178,7,178,41⟩) (.cons (.ret (.call 27 "after" (.cons (.var 0 "term" ⟨179,21,179,25⟩) (.cons (.ix (.var 1 "line" ⟨179,27,179,31⟩) (.cst (.int 1) 0 ⟨179,32,179,33⟩) ⟨179,27,179,34⟩) .nil)) ⟨179,15,179,20⟩ ⟨179,15,179,35⟩) ⟨179,8,179,35⟩)
  .nil) .nil ⟨178,4,179,35⟩)
  ((.cons (.ite (.bop .And (.cons (.cmp .Eq (.ix (.var 1 "line" ⟨180,7,180,11⟩) (.cst (.int 0) 0 ⟨180,12,180,13⟩) ⟨180,7,180,14⟩) (.cst (.str "back") 0 ⟨180,18,180,24⟩) ⟨180,7,180,24⟩) (.cons (.cmp .Eq (.bi .len (.var 1 "line" ⟨180,33,180,37⟩) ⟨180,29,180,32⟩ ⟨180,29,180,38⟩) (.cst (.int 3) 0 ⟨180,42,180,43⟩) ⟨180,29,180,43⟩) (.cons (.call 4 "is_term" (.cons (.ix (.var 1 "line" ⟨180,56,180,60⟩) (.cst (.int 1) 0 ⟨180,61,180,62⟩) ⟨180,56,180,63⟩) .nil) ⟨180,48,180,55⟩ ⟨180,48,180,64⟩) (.cons (.cmp .Eq (.call 27 "after" (.cons (.ix (.var 1 "line" ⟨180,76,180,80⟩) (.cst (.int 1) 0 ⟨180,81,180,82⟩) ⟨180,76,180,83⟩) (.cons (.ix (.var 1 "line" ⟨180,85,180,89⟩) (.cst (.int 2) 0 ⟨180,90,180,91⟩) ⟨180,85,180,92⟩) .nil)) ⟨180,70,180,75⟩ ⟨180,70,180,93⟩) (.var 0 "term" ⟨180,97,180,101⟩) ⟨180,70,180,101⟩) .nil)))) ⟨180,7,180,102⟩) (.cons (.ret (.ix (.var 1 "line" ⟨181,15,181,19⟩) (.cst (.int 1) 0 ⟨181,20,181,21⟩) ⟨181,15,181,22⟩) ⟨181,8,181,22⟩)
  .nil) .nil ⟨180,4,181,22⟩)
  ((.cons (.ret (.cst .none 0 ⟨182,11,182,15⟩) ⟨182,4,182,15⟩)
  .nil)))))))
/-- after -/
def b_after : Ss := (.cons (.set 2 "found" (.call 11 "part_at" (.cons (.var 0 "term" ⟨184,20,184,24⟩) (.cons (.var 1 "way" ⟨184,26,184,29⟩) .nil)) ⟨184,12,184,19⟩ ⟨184,12,184,30⟩) ⟨184,4,184,9⟩ ⟨184,4,184,30⟩)
  ((.cons (.ite (.bop .Or (.cons (.cmp .Is (.var 2 "found" ⟨185,7,185,12⟩) (.cst .none 0 ⟨185,16,185,20⟩) ⟨185,7,185,20⟩) (.cons (.not (.call 8 "deed_of" (.cons (.var 2 "found" ⟨185,36,185,41⟩) .nil) ⟨185,28,185,35⟩ ⟨185,28,185,42⟩) ⟨185,24,185,42⟩) .nil)) ⟨185,7,185,42⟩) (.cons (.ret (.cst .none 0 ⟨186,15,186,19⟩) ⟨186,8,186,19⟩)
  .nil) .nil ⟨185,4,186,19⟩)
  ((.cons (.set 2 "found" (.call 14 "step_to" (.cons (.var 0 "term" ⟨187,20,187,24⟩) (.cons (.var 1 "way" ⟨187,26,187,29⟩) .nil)) ⟨187,12,187,19⟩ ⟨187,12,187,30⟩) ⟨187,4,187,9⟩ ⟨187,4,187,30⟩)
  ((.cons (.ret (.ife (.call 4 "is_term" (.cons (.var 2 "found" ⟨188,28,188,33⟩) .nil) ⟨188,20,188,27⟩ ⟨188,20,188,34⟩) (.var 2 "found" ⟨188,11,188,16⟩) (.cst .none 0 ⟨188,40,188,44⟩) ⟨188,11,188,44⟩) ⟨188,4,188,44⟩)
  .nil)))))))
/-- end_of -/
def l_end_of_1 : Ss := (.cons (.set 0 "term" (.call 26 "line_to" (.cons (.var 0 "term" ⟨193,23,193,27⟩) (.cons (.var 2 "line" ⟨193,29,193,33⟩) .nil)) ⟨193,15,193,22⟩ ⟨193,15,193,34⟩) ⟨193,8,193,12⟩ ⟨193,8,193,34⟩)
  ((.cons (.ite (.cmp .Is (.var 0 "term" ⟨194,11,194,15⟩) (.cst .none 0 ⟨194,19,194,23⟩) ⟨194,11,194,23⟩) (.cons (.ret (.cst .none 0 ⟨195,19,195,23⟩) ⟨195,12,195,23⟩)
  .nil) .nil ⟨194,8,195,23⟩)
  .nil)))
def r_end_of_1 : Ss := (.cons (.ret (.var 0 "term" ⟨196,11,196,15⟩) ⟨196,4,196,15⟩)
  .nil)
def b_end_of : Ss := (.cons (.ite (.bop .Or (.cons (.not (.isi .list (.var 1 "paper" ⟨190,22,190,27⟩) ⟨190,11,190,21⟩ ⟨190,29,190,33⟩ ⟨190,11,190,34⟩) ⟨190,7,190,34⟩) (.cons (.cmp .Gt (.bi .len (.var 1 "paper" ⟨190,42,190,47⟩) ⟨190,38,190,41⟩ ⟨190,38,190,48⟩) (.glob 4 "MOST_LINES" ⟨190,51,190,61⟩) ⟨190,38,190,61⟩) .nil)) ⟨190,7,190,61⟩) (.cons (.ret (.cst .none 0 ⟨191,15,191,19⟩) ⟨191,8,191,19⟩)
  .nil) .nil ⟨190,4,191,19⟩)
  ((.cons (.for_ (.one 2 "line" ⟨192,8,192,12⟩) (.seq (.var 1 "paper" ⟨192,16,192,21⟩)) l_end_of_1 ⟨192,4,195,23⟩)
  r_end_of_1)))
/-- led_by -/
def b_led_by : Ss := (.cons (.set 2 "found" (.call 28 "end_of" (.cons (.call 5 "checked" (.cons (.var 0 "term" ⟨198,27,198,31⟩) .nil) ⟨198,19,198,26⟩ ⟨198,19,198,32⟩) (.cons (.var 1 "paper" ⟨198,34,198,39⟩) .nil)) ⟨198,12,198,18⟩ ⟨198,12,198,40⟩) ⟨198,4,198,9⟩ ⟨198,4,198,40⟩)
  ((.cons (.ite (.cmp .Is (.var 2 "found" ⟨199,7,199,12⟩) (.cst .none 0 ⟨199,16,199,20⟩) ⟨199,7,199,20⟩) (.cons (.rais 4 "BadPaper" "no paper from it" 0 ⟨200,14,200,22⟩ ⟨200,23,200,41⟩ ⟨200,14,200,42⟩ ⟨200,8,200,42⟩)
  .nil) .nil ⟨199,4,200,42⟩)
  ((.cons (.ret (.var 2 "found" ⟨201,11,201,16⟩) ⟨201,4,201,16⟩)
  .nil)))))
/-- _law_cell -/
def b__law_cell : Ss := (.cons (.ite (.cmp .Lt (.var 1 "_law_k" ⟨204,7,204,13⟩) (.bi .len (.var 0 "_law_script" ⟨204,20,204,31⟩) ⟨204,16,204,19⟩ ⟨204,16,204,32⟩) ⟨204,7,204,32⟩) (.cons (.ret (.ix (.var 0 "_law_script" ⟨205,15,205,26⟩) (.var 1 "_law_k" ⟨205,27,205,33⟩) ⟨205,15,205,34⟩) ⟨205,8,205,34⟩)
  .nil) .nil ⟨204,4,205,34⟩)
  ((.cons (.ret (.cst (.int 0) 0 ⟨206,11,206,12⟩) ⟨206,4,206,12⟩)
  .nil)))
/-- _law_row -/
def l__law_row_1 : Ss := (.cons (.ite (.cmp .Lt (.call 30 "_law_cell" (.cons (.var 0 "_law_script" ⟨211,21,211,32⟩) (.cons (.var 1 "_law_at" ⟨211,34,211,41⟩) .nil)) ⟨211,11,211,20⟩ ⟨211,11,211,42⟩) (.bin .Pow (.cst (.int 10) 0 ⟨211,45,211,47⟩) (.cst (.int 18) 0 ⟨211,51,211,53⟩) ⟨211,45,211,53⟩) ⟨211,11,211,53⟩) (.cons (.set 2 "_law_cell_here" (.bin .Mod (.bin .Add (.bin .Add (.bin .Add (.bin .Mult (.var 2 "_law_cell_here" ⟨212,30,212,44⟩) (.cst (.int 48271) 0 ⟨212,47,212,52⟩) ⟨212,30,212,52⟩) (.bin .Mult (.cst (.int 131) 0 ⟨212,55,212,58⟩) (.var 4 "_law_time" ⟨212,61,212,70⟩) ⟨212,55,212,70⟩) ⟨212,30,212,70⟩) (.cst (.int 7) 0 ⟨212,73,212,74⟩) ⟨212,30,212,74⟩) (.call 30 "_law_cell" (.cons (.var 0 "_law_script" ⟨212,87,212,98⟩) (.cons (.bin .Mod (.bin .Add (.bin .Add (.var 1 "_law_at" ⟨212,101,212,108⟩) (.cst (.int 1) 0 ⟨212,111,212,112⟩) ⟨212,101,212,112⟩) (.var 4 "_law_time" ⟨212,115,212,124⟩) ⟨212,101,212,124⟩) (.cst (.int 20) 0 ⟨212,128,212,130⟩) ⟨212,100,212,130⟩) .nil)) ⟨212,77,212,86⟩ ⟨212,77,212,131⟩) ⟨212,30,212,131⟩) (.cst (.int 2147483647) 0 ⟨212,135,212,145⟩) ⟨212,29,212,145⟩) ⟨212,12,212,26⟩ ⟨212,12,212,145⟩)
  ((.cons (.app 3 "_law_found" (.bin .Mod (.bin .FloorDiv (.var 2 "_law_cell_here" ⟨213,30,213,44⟩) (.cst (.int 11) 0 ⟨213,48,213,50⟩) ⟨213,30,213,50⟩) (.cst (.int 1000) 0 ⟨213,53,213,57⟩) ⟨213,30,213,57⟩) ⟨213,12,213,22⟩ ⟨213,12,213,29⟩ ⟨213,12,213,58⟩ ⟨213,12,213,58⟩)
  .nil))) (.cons (.app 3 "_law_found" (.bin .Mod (.var 2 "_law_cell_here" ⟨215,30,215,44⟩) (.cst (.int 1000) 0 ⟨215,47,215,51⟩) ⟨215,30,215,51⟩) ⟨215,12,215,22⟩ ⟨215,12,215,29⟩ ⟨215,12,215,52⟩ ⟨215,12,215,52⟩)
  ((.cons (.set 2 "_law_cell_here" (.bin .FloorDiv (.var 2 "_law_cell_here" ⟨216,29,216,43⟩) (.cst (.int 1000) 0 ⟨216,47,216,51⟩) ⟨216,29,216,51⟩) ⟨216,12,216,26⟩ ⟨216,12,216,51⟩)
  .nil))) ⟨211,8,216,51⟩)
  .nil)
def r__law_row_1 : Ss := (.fz 3 (.cons (.ret (.var 3 "_law_found" ⟨217,11,217,21⟩) ⟨217,4,217,21⟩)
  .nil))
def b__law_row : Ss := (.cons (.set 2 "_law_cell_here" (.call 30 "_law_cell" (.cons (.var 0 "_law_script" ⟨208,31,208,42⟩) (.cons (.var 1 "_law_at" ⟨208,44,208,51⟩) .nil)) ⟨208,21,208,30⟩ ⟨208,21,208,52⟩) ⟨208,4,208,18⟩ ⟨208,4,208,52⟩)
  ((.cons (.setF 3 "_law_found" (.lst .nil ⟨209,17,209,19⟩) ⟨209,4,209,14⟩ ⟨209,4,209,19⟩)
  ((.cons (.for_ (.one 4 "_law_time" ⟨210,8,210,17⟩) (.rng (.cons (.cst (.int 60) 0 ⟨210,27,210,29⟩) .nil) ⟨210,21,210,26⟩ ⟨210,21,210,30⟩) l__law_row_1 ⟨210,4,216,51⟩)
  r__law_row_1)))))
/-- _law_name -/
def b__law_name : Ss := (.cons (.ite (.cmp .Gt (.bin .Mod (.var 0 "_law_number" ⟨219,7,219,18⟩) (.cst (.int 5) 0 ⟨219,21,219,22⟩) ⟨219,7,219,22⟩) (.cst (.int 0) 0 ⟨219,25,219,26⟩) ⟨219,7,219,26⟩) (.cons (.ret (.ix (.lst (.cons (.cst (.str "x") 0 ⟨220,16,220,19⟩) (.cons (.cst (.str "y") 0 ⟨220,21,220,24⟩) (.cons (.cst (.str "z") 0 ⟨220,26,220,29⟩) (.cons (.cst (.str "f") 0 ⟨220,31,220,34⟩) .nil)))) ⟨220,15,220,35⟩) (.bin .Mod (.bin .FloorDiv (.var 0 "_law_number" ⟨220,36,220,47⟩) (.cst (.int 5) 0 ⟨220,51,220,52⟩) ⟨220,36,220,52⟩) (.cst (.int 4) 0 ⟨220,55,220,56⟩) ⟨220,36,220,56⟩) ⟨220,15,220,57⟩) ⟨220,8,220,57⟩)
  .nil) .nil ⟨219,4,220,57⟩)
  ((.cons (.ret (.bin .Mult (.ix (.cst (.str "abcdefghijklmnopqrstuvwxyz") 0 ⟨221,11,221,39⟩) (.bin .Mod (.bin .FloorDiv (.var 0 "_law_number" ⟨221,40,221,51⟩) (.cst (.int 5) 0 ⟨221,55,221,56⟩) ⟨221,40,221,56⟩) (.cst (.int 26) 0 ⟨221,59,221,61⟩) ⟨221,40,221,61⟩) ⟨221,11,221,62⟩) (.bin .Add (.cst (.int 1) 0 ⟨221,66,221,67⟩) (.bin .Mod (.bin .FloorDiv (.var 0 "_law_number" ⟨221,70,221,81⟩) (.cst (.int 130) 0 ⟨221,85,221,88⟩) ⟨221,70,221,88⟩) (.cst (.int 3) 0 ⟨221,91,221,92⟩) ⟨221,70,221,92⟩) ⟨221,66,221,92⟩) ⟨221,11,221,93⟩) ⟨221,4,221,93⟩)
  .nil)))
/-- _law_leaf -/
def b__law_leaf : Ss := (.cons (.ite (.cmp .Lt (.bin .Mod (.var 0 "_law_number" ⟨223,7,223,18⟩) (.cst (.int 3) 0 ⟨223,21,223,22⟩) ⟨223,7,223,22⟩) (.cst (.int 2) 0 ⟨223,25,223,26⟩) ⟨223,7,223,26⟩) (.cons (.ret (.ix (.cst (.str "KS") 0 ⟨224,15,224,19⟩) (.bin .Mod (.var 0 "_law_number" ⟨224,20,224,31⟩) (.cst (.int 3) 0 ⟨224,34,224,35⟩) ⟨224,20,224,35⟩) ⟨224,15,224,36⟩) ⟨224,8,224,36⟩)
  .nil) .nil ⟨223,4,224,36⟩)
  ((.cons (.ret (.call 32 "_law_name" (.cons (.bin .FloorDiv (.var 0 "_law_number" ⟨225,21,225,32⟩) (.cst (.int 3) 0 ⟨225,36,225,37⟩) ⟨225,21,225,37⟩) .nil) ⟨225,11,225,20⟩ ⟨225,11,225,38⟩) ⟨225,4,225,38⟩)
  .nil)))
/-- _law_leaves -/
def b__law_leaves : Ss := (.cons (.ite (.isi .str (.var 0 "_law_term" ⟨227,18,227,27⟩) ⟨227,7,227,17⟩ ⟨227,29,227,32⟩ ⟨227,7,227,33⟩) (.cons (.ret (.cst (.int 1) 0 ⟨228,15,228,16⟩) ⟨228,8,228,16⟩)
  .nil) .nil ⟨227,4,228,16⟩)
  ((.cons (.ret (.bin .Add (.call 34 "_law_leaves" (.cons (.ix (.var 0 "_law_term" ⟨229,23,229,32⟩) (.cst (.int 0) 0 ⟨229,33,229,34⟩) ⟨229,23,229,35⟩) .nil) ⟨229,11,229,22⟩ ⟨229,11,229,36⟩) (.call 34 "_law_leaves" (.cons (.ix (.var 0 "_law_term" ⟨229,51,229,60⟩) (.cst (.int 1) 0 ⟨229,61,229,62⟩) ⟨229,51,229,63⟩) .nil) ⟨229,39,229,50⟩ ⟨229,39,229,64⟩) ⟨229,11,229,64⟩) ⟨229,4,229,64⟩)
  .nil)))
/-- _law_part -/
def l__law_part_1 : Ss := (.cons (.set 0 "_law_term" (.ix (.var 0 "_law_term" ⟨232,20,232,29⟩) (.var 2 "_law_side" ⟨232,30,232,39⟩) ⟨232,20,232,40⟩) ⟨232,8,232,17⟩ ⟨232,8,232,40⟩)
  .nil)
def r__law_part_1 : Ss := (.cons (.ret (.var 0 "_law_term" ⟨233,11,233,20⟩) ⟨233,4,233,20⟩)
  .nil)
def b__law_part : Ss := (.cons (.for_ (.one 2 "_law_side" ⟨231,8,231,17⟩) (.seq (.var 1 "_law_way" ⟨231,21,231,29⟩)) l__law_part_1 ⟨231,4,232,40⟩)
  r__law_part_1)
/-- _law_with -/
def b__law_with : Ss := (.cons (.ite (.cmp .Eq (.var 1 "_law_way" ⟨235,7,235,15⟩) (.tup .nil 0 ⟨235,19,235,21⟩) ⟨235,7,235,21⟩) (.cons (.ret (.var 2 "_law_other" ⟨236,15,236,25⟩) ⟨236,8,236,25⟩)
  .nil) .nil ⟨235,4,236,25⟩)
  ((.cons (.ite (.cmp .Eq (.ix (.var 1 "_law_way" ⟨237,7,237,15⟩) (.cst (.int 0) 0 ⟨237,16,237,17⟩) ⟨237,7,237,18⟩) (.cst (.int 0) 0 ⟨237,22,237,23⟩) ⟨237,7,237,23⟩) (.cons (.ret (.tup (.cons (.call 36 "_law_with" (.cons (.ix (.var 0 "_law_term" ⟨238,26,238,35⟩) (.cst (.int 0) 0 ⟨238,36,238,37⟩) ⟨238,26,238,38⟩) (.cons (.sl (.var 1 "_law_way" ⟨238,40,238,48⟩) (.so (.cst (.int 1) 0 ⟨238,49,238,50⟩)) .no ⟨238,40,238,52⟩ ⟨238,49,238,51⟩) (.cons (.var 2 "_law_other" ⟨238,54,238,64⟩) .nil))) ⟨238,16,238,25⟩ ⟨238,16,238,65⟩) (.cons (.ix (.var 0 "_law_term" ⟨238,67,238,76⟩) (.cst (.int 1) 0 ⟨238,77,238,78⟩) ⟨238,67,238,79⟩) .nil)) 0 ⟨238,15,238,80⟩) ⟨238,8,238,80⟩)
  .nil) .nil ⟨237,4,238,80⟩)
  ((.cons (.ret (.tup (.cons (.ix (.var 0 "_law_term" ⟨239,12,239,21⟩) (.cst (.int 0) 0 ⟨239,22,239,23⟩) ⟨239,12,239,24⟩) (.cons (.call 36 "_law_with" (.cons (.ix (.var 0 "_law_term" ⟨239,36,239,45⟩) (.cst (.int 1) 0 ⟨239,46,239,47⟩) ⟨239,36,239,48⟩) (.cons (.sl (.var 1 "_law_way" ⟨239,50,239,58⟩) (.so (.cst (.int 1) 0 ⟨239,59,239,60⟩)) .no ⟨239,50,239,62⟩ ⟨239,59,239,61⟩) (.cons (.var 2 "_law_other" ⟨239,64,239,74⟩) .nil))) ⟨239,26,239,35⟩ ⟨239,26,239,75⟩) .nil)) 0 ⟨239,11,239,76⟩) ⟨239,4,239,76⟩)
  .nil)))))
/-- _law_deed -/
def l__law_deed_1 : Ss := (.cons (.set 3 "_law_many" (.bin .Add (.var 3 "_law_many" ⟨243,20,243,29⟩) (.cst (.int 1) 0 ⟨243,32,243,33⟩) ⟨243,20,243,33⟩) ⟨243,8,243,17⟩ ⟨243,8,243,33⟩)
  ((.cons (.set 0 "_law_term" (.ix (.var 0 "_law_term" ⟨244,20,244,29⟩) (.cst (.int 0) 0 ⟨244,30,244,31⟩) ⟨244,20,244,32⟩) ⟨244,8,244,17⟩ ⟨244,8,244,32⟩)
  .nil)))
def r__law_deed_1 : Ss := (.cons (.ite (.bop .And (.cons (.cmp .Eq (.var 0 "_law_term" ⟨245,7,245,16⟩) (.var 1 "_law_keeps" ⟨245,20,245,30⟩) ⟨245,7,245,30⟩) (.cons (.cmp .Eq (.var 3 "_law_many" ⟨245,35,245,44⟩) (.cst (.int 2) 0 ⟨245,48,245,49⟩) ⟨245,35,245,49⟩) .nil)) ⟨245,7,245,49⟩) (.cons (.ret (.cst (.int 2) 0 ⟨246,15,246,16⟩) ⟨246,8,246,16⟩)
  .nil) .nil ⟨245,4,246,16⟩)
  ((.cons (.ret (.ife (.bop .And (.cons (.cmp .Eq (.var 0 "_law_term" ⟨247,16,247,25⟩) (.var 2 "_law_shares" ⟨247,29,247,40⟩) ⟨247,16,247,40⟩) (.cons (.cmp .Eq (.var 3 "_law_many" ⟨247,45,247,54⟩) (.cst (.int 3) 0 ⟨247,58,247,59⟩) ⟨247,45,247,59⟩) .nil)) ⟨247,16,247,59⟩) (.cst (.int 3) 0 ⟨247,11,247,12⟩) (.cst (.int 0) 0 ⟨247,65,247,66⟩) ⟨247,11,247,66⟩) ⟨247,4,247,66⟩)
  .nil)))
def b__law_deed : Ss := (.cons (.set 3 "_law_many" (.cst (.int 0) 0 ⟨241,16,241,17⟩) ⟨241,4,241,13⟩ ⟨241,4,241,17⟩)
  ((.cons (.while_ (.isi .tuple (.var 0 "_law_term" ⟨242,21,242,30⟩) ⟨242,10,242,20⟩ ⟨242,32,242,37⟩ ⟨242,10,242,38⟩) l__law_deed_1 ⟨242,4,244,32⟩)
  r__law_deed_1)))
/-- _law_step -/
def b__law_step : Ss := (.cons (.set 2 "_law_here" (.call 35 "_law_part" (.cons (.var 0 "_law_term" ⟨249,26,249,35⟩) (.cons (.var 1 "_law_way" ⟨249,37,249,45⟩) .nil)) ⟨249,16,249,25⟩ ⟨249,16,249,46⟩) ⟨249,4,249,13⟩ ⟨249,4,249,46⟩)
  ((.cons (.ite (.cmp .Eq (.call 37 "_law_deed" (.cons (.var 2 "_law_here" ⟨250,17,250,26⟩) (.cons (.cst (.str "K") 0 ⟨250,28,250,31⟩) (.cons (.cst (.str "S") 0 ⟨250,33,250,36⟩) .nil))) ⟨250,7,250,16⟩ ⟨250,7,250,37⟩) (.cst (.int 2) 0 ⟨250,41,250,42⟩) ⟨250,7,250,42⟩) (.cons (.ret (.call 36 "_law_with" (.cons (.var 0 "_law_term" ⟨251,25,251,34⟩) (.cons (.var 1 "_law_way" ⟨251,36,251,44⟩) (.cons (.ix (.ix (.var 2 "_law_here" ⟨251,46,251,55⟩) (.cst (.int 0) 0 ⟨251,56,251,57⟩) ⟨251,46,251,58⟩) (.cst (.int 1) 0 ⟨251,59,251,60⟩) ⟨251,46,251,61⟩) .nil))) ⟨251,15,251,24⟩ ⟨251,15,251,62⟩) ⟨251,8,251,62⟩)
  .nil) .nil ⟨250,4,251,62⟩)
  ((.cons (.set 3 "_law_shared" (.ix (.var 2 "_law_here" ⟨252,18,252,27⟩) (.cst (.int 1) 0 ⟨252,28,252,29⟩) ⟨252,18,252,30⟩) ⟨252,4,252,15⟩ ⟨252,4,252,30⟩)
  ((.cons (.ret (.call 36 "_law_with" (.cons (.var 0 "_law_term" ⟨253,21,253,30⟩) (.cons (.var 1 "_law_way" ⟨253,32,253,40⟩) (.cons (.tup (.cons (.tup (.cons (.ix (.ix (.ix (.var 2 "_law_here" ⟨253,44,253,53⟩) (.cst (.int 0) 0 ⟨253,54,253,55⟩) ⟨253,44,253,56⟩) (.cst (.int 0) 0 ⟨253,57,253,58⟩) ⟨253,44,253,59⟩) (.cst (.int 1) 0 ⟨253,60,253,61⟩) ⟨253,44,253,62⟩) (.cons (.var 3 "_law_shared" ⟨253,64,253,75⟩) .nil)) 0 ⟨253,43,253,76⟩) (.cons (.tup (.cons (.ix (.ix (.var 2 "_law_here" ⟨253,79,253,88⟩) (.cst (.int 0) 0 ⟨253,89,253,90⟩) ⟨253,79,253,91⟩) (.cst (.int 1) 0 ⟨253,92,253,93⟩) ⟨253,79,253,94⟩) (.cons (.var 3 "_law_shared" ⟨253,96,253,107⟩) .nil)) 0 ⟨253,78,253,108⟩) .nil)) 0 ⟨253,42,253,109⟩) .nil))) ⟨253,11,253,20⟩ ⟨253,11,253,110⟩) ⟨253,4,253,110⟩)
  .nil)))))))
/-- _law_edge -/
def r__law_edge_1 : Ss := (.cons (.ret (.cst (.str "") 0 ⟨276,11,276,13⟩) ⟨276,4,276,13⟩)
  .nil)
def b__law_edge : Ss := (.cons (.try_ (.cons (.ite (.cmp .Eq (.var 0 "_law_way" ⟨256,11,256,19⟩) (.cst (.int 0) 0 ⟨256,23,256,24⟩) ⟨256,11,256,24⟩) (.cons (.expr (.call 7 "leaves" (.cons (.var 1 "_law_thing" ⟨257,19,257,29⟩) .nil) ⟨257,12,257,18⟩ ⟨257,12,257,30⟩) ⟨257,12,257,30⟩)
  .nil) (.cons (.ite (.cmp .Eq (.var 0 "_law_way" ⟨258,13,258,21⟩) (.cst (.int 1) 0 ⟨258,25,258,26⟩) ⟨258,13,258,26⟩) (.cons (.expr (.call 15 "stepped" (.cons (.var 1 "_law_thing" ⟨259,20,259,30⟩) (.cons (.tup .nil 0 ⟨259,32,259,34⟩) .nil)) ⟨259,12,259,19⟩ ⟨259,12,259,35⟩) ⟨259,12,259,35⟩)
  .nil) (.cons (.ite (.cmp .Eq (.var 0 "_law_way" ⟨260,13,260,21⟩) (.cst (.int 2) 0 ⟨260,25,260,26⟩) ⟨260,13,260,26⟩) (.cons (.expr (.call 25 "meet" (.cons (.cst (.str "K") 0 ⟨261,17,261,20⟩) (.cons (.lst .nil ⟨261,22,261,24⟩) (.cons (.var 1 "_law_thing" ⟨261,26,261,36⟩) .nil))) ⟨261,12,261,16⟩ ⟨261,12,261,37⟩) ⟨261,12,261,37⟩)
  .nil) (.cons (.ite (.cmp .Eq (.var 0 "_law_way" ⟨262,13,262,21⟩) (.cst (.int 3) 0 ⟨262,25,262,26⟩) ⟨262,13,262,26⟩) (.cons (.expr (.call 29 "led_by" (.cons (.cst (.str "K") 0 ⟨263,19,263,22⟩) (.cons (.var 1 "_law_thing" ⟨263,24,263,34⟩) .nil)) ⟨263,12,263,18⟩ ⟨263,12,263,35⟩) ⟨263,12,263,35⟩)
  .nil) (.cons (.expr (.call 17 "played" (.cons (.cst (.str "K") 0 ⟨265,19,265,22⟩) (.cons (.var 1 "_law_thing" ⟨265,24,265,34⟩) .nil)) ⟨265,12,265,18⟩ ⟨265,12,265,35⟩) ⟨265,12,265,35⟩)
  .nil) ⟨262,8,265,35⟩)
  .nil) ⟨260,8,265,35⟩)
  .nil) ⟨258,8,265,35⟩)
  .nil) ⟨256,8,265,35⟩)
  .nil) [⟨1, "BadTerm", none, (.ret (.cst (.str "term") 0 ⟨267,15,267,21⟩) ⟨267,8,267,21⟩), ⟨266,11,266,18⟩, ⟨266,4,267,21⟩⟩, ⟨5, "TooBig", none, (.ret (.cst (.str "big") 0 ⟨269,15,269,20⟩) ⟨269,8,269,20⟩), ⟨268,11,268,17⟩, ⟨268,4,269,20⟩⟩, ⟨3, "BadCount", none, (.ret (.cst (.str "count") 0 ⟨271,15,271,22⟩) ⟨271,8,271,22⟩), ⟨270,11,270,19⟩, ⟨270,4,271,22⟩⟩, ⟨4, "BadPaper", none, (.ret (.cst (.str "paper") 0 ⟨273,15,273,22⟩) ⟨273,8,273,22⟩), ⟨272,11,272,19⟩, ⟨272,4,273,22⟩⟩, ⟨2, "BadWay", none, (.ret (.cst (.str "way") 0 ⟨275,15,275,20⟩) ⟨275,8,275,20⟩), ⟨274,11,274,17⟩, ⟨274,4,275,20⟩⟩] ⟨255,4,275,20⟩)
  r__law_edge_1)
/-- law -/
def l_law_1 : Ss := (.cons (.set 3 "_law_long" (.ife (.cmp .Eq (.bin .Mod (.var 4 "_law_time" ⟨282,81,282,90⟩) (.cst (.int 2) 0 ⟨282,93,282,94⟩) ⟨282,81,282,94⟩) (.cst (.int 0) 0 ⟨282,98,282,99⟩) ⟨282,81,282,99⟩) (.tup (.cons (.var 3 "_law_long" ⟨282,21,282,30⟩) (.cons (.call 33 "_law_leaf" (.cons (.ix (.var 1 "_law_row_here" ⟨282,42,282,55⟩) (.bin .Add (.cst (.int 2) 0 ⟨282,56,282,57⟩) (.bin .Mod (.var 4 "_law_time" ⟨282,60,282,69⟩) (.cst (.int 50) 0 ⟨282,72,282,74⟩) ⟨282,60,282,74⟩) ⟨282,56,282,74⟩) ⟨282,42,282,75⟩) .nil) ⟨282,32,282,41⟩ ⟨282,32,282,76⟩) .nil)) 0 ⟨282,20,282,77⟩) (.tup (.cons (.call 33 "_law_leaf" (.cons (.ix (.var 1 "_law_row_here" ⟨282,116,282,129⟩) (.bin .Add (.cst (.int 2) 0 ⟨282,130,282,131⟩) (.bin .Mod (.var 4 "_law_time" ⟨282,134,282,143⟩) (.cst (.int 50) 0 ⟨282,146,282,148⟩) ⟨282,134,282,148⟩) ⟨282,130,282,148⟩) ⟨282,116,282,149⟩) .nil) ⟨282,106,282,115⟩ ⟨282,106,282,150⟩) (.cons (.var 3 "_law_long" ⟨282,152,282,161⟩) .nil)) 0 ⟨282,105,282,162⟩) ⟨282,20,282,162⟩) ⟨282,8,282,17⟩ ⟨282,8,282,162⟩)
  .nil)
def l_law_2 : Ss := (.cons (.set 5 "_law_shared" (.tup (.cons (.var 5 "_law_shared" ⟨287,23,287,34⟩) (.cons (.cst (.str "y") 0 ⟨287,36,287,39⟩) .nil)) 0 ⟨287,22,287,40⟩) ⟨287,8,287,19⟩ ⟨287,8,287,40⟩)
  .nil)
def l_law_3 : Ss := (.cons (.set 6 "_law_extra" (.tup (.cons (.var 6 "_law_extra" ⟨290,22,290,32⟩) (.cons (.cst (.str "S") 0 ⟨290,34,290,37⟩) .nil)) 0 ⟨290,21,290,38⟩) ⟨290,8,290,18⟩ ⟨290,8,290,38⟩)
  .nil)
def r_law_3 : Ss := (.cons (.set 7 "_law_term" (.tup (.cons (.tup (.cons (.tup (.cons (.cst (.str "S") 0 ⟨291,19,291,22⟩) (.cons (.var 6 "_law_extra" ⟨291,24,291,34⟩) .nil)) 0 ⟨291,18,291,35⟩) (.cons (.cst (.str "z") 0 ⟨291,37,291,40⟩) .nil)) 0 ⟨291,17,291,41⟩) (.cons (.var 5 "_law_shared" ⟨291,43,291,54⟩) .nil)) 0 ⟨291,16,291,55⟩) ⟨291,4,291,13⟩ ⟨291,4,291,55⟩)
  ((.cons (.set 8 "_law_due" (.call 34 "_law_leaves" (.cons (.call 38 "_law_step" (.cons (.var 7 "_law_term" ⟨292,37,292,46⟩) (.cons (.tup .nil 0 ⟨292,48,292,50⟩) .nil)) ⟨292,27,292,36⟩ ⟨292,27,292,51⟩) .nil) ⟨292,15,292,26⟩ ⟨292,15,292,52⟩) ⟨292,4,292,12⟩ ⟨292,4,292,52⟩)
  ((.cons (.ite (.bop .And (.cons (.cmp .LtE (.call 34 "_law_leaves" (.cons (.var 7 "_law_term" ⟨293,19,293,28⟩) .nil) ⟨293,7,293,18⟩ ⟨293,7,293,29⟩) (.cst (.int 200) 0 ⟨293,33,293,36⟩) ⟨293,7,293,36⟩) (.cons (.cmp .NotEq (.call 39 "_law_edge" (.cons (.cst (.int 1) 0 ⟨293,51,293,52⟩) (.cons (.var 7 "_law_term" ⟨293,54,293,63⟩) .nil)) ⟨293,41,293,50⟩ ⟨293,41,293,64⟩) (.ife (.cmp .LtE (.var 8 "_law_due" ⟨293,75,293,83⟩) (.cst (.int 200) 0 ⟨293,87,293,90⟩) ⟨293,75,293,90⟩) (.cst (.str "") 0 ⟨293,69,293,71⟩) (.cst (.str "big") 0 ⟨293,96,293,101⟩) ⟨293,69,293,101⟩) ⟨293,41,293,102⟩) .nil)) ⟨293,7,293,102⟩) (.cons (.ret (.cst (.bool false) 0 ⟨294,15,294,20⟩) ⟨294,8,294,20⟩)
  .nil) .nil ⟨293,4,294,20⟩)
  ((.cons (.set 9 "_law_often" (.bin .Add (.cst (.int 7) 0 ⟨295,17,295,18⟩) (.bin .Mod (.ix (.var 1 "_law_row_here" ⟨295,21,295,34⟩) (.cst (.int 4) 0 ⟨295,35,295,36⟩) ⟨295,21,295,37⟩) (.cst (.int 4) 0 ⟨295,40,295,41⟩) ⟨295,21,295,41⟩) ⟨295,17,295,41⟩) ⟨295,4,295,14⟩ ⟨295,4,295,41⟩)
  ((.cons (.ite (.cmp .NotEq (.call 39 "_law_edge" (.cons (.cst (.int 2) 0 ⟨296,17,296,18⟩) (.cons (.bin .Mult (.lst (.cons (.tup .nil 0 ⟨296,21,296,23⟩) .nil) ⟨296,20,296,24⟩) (.var 9 "_law_often" ⟨296,27,296,37⟩) ⟨296,20,296,37⟩) .nil)) ⟨296,7,296,16⟩ ⟨296,7,296,38⟩) (.ife (.cmp .LtE (.var 9 "_law_often" ⟨296,52,296,62⟩) (.cst (.int 8) 0 ⟨296,66,296,67⟩) ⟨296,52,296,67⟩) (.cst (.str "way") 0 ⟨296,43,296,48⟩) (.cst (.str "count") 0 ⟨296,73,296,80⟩) ⟨296,43,296,80⟩) ⟨296,7,296,81⟩) (.cons (.ret (.cst (.bool false) 0 ⟨297,15,297,20⟩) ⟨297,8,297,20⟩)
  .nil) .nil ⟨296,4,297,20⟩)
  ((.cons (.set 10 "_law_lines" (.bin .Add (.cst (.int 10) 0 ⟨298,17,298,19⟩) (.bin .Mod (.ix (.var 1 "_law_row_here" ⟨298,22,298,35⟩) (.cst (.int 5) 0 ⟨298,36,298,37⟩) ⟨298,22,298,38⟩) (.cst (.int 5) 0 ⟨298,41,298,42⟩) ⟨298,22,298,42⟩) ⟨298,17,298,42⟩) ⟨298,4,298,14⟩ ⟨298,4,298,42⟩)
  ((.cons (.set 11 "_law_paper" (.bin .Mult (.lst (.cons (.tup (.cons (.cst (.str "back") 0 ⟨299,19,299,25⟩) (.cons (.tup (.cons (.tup (.cons (.cst (.str "K") 0 ⟨299,29,299,32⟩) (.cons (.cst (.str "K") 0 ⟨299,34,299,37⟩) .nil)) 0 ⟨299,28,299,38⟩) (.cons (.cst (.str "x") 0 ⟨299,40,299,43⟩) .nil)) 0 ⟨299,27,299,44⟩) (.cons (.tup .nil 0 ⟨299,46,299,48⟩) .nil))) 0 ⟨299,18,299,49⟩) (.cons (.tup (.cons (.cst (.str "on") 0 ⟨299,52,299,56⟩) (.cons (.tup .nil 0 ⟨299,58,299,60⟩) .nil)) 0 ⟨299,51,299,61⟩) .nil)) ⟨299,17,299,62⟩) (.cst (.int 7) 0 ⟨299,65,299,66⟩) ⟨299,17,299,66⟩) ⟨299,4,299,14⟩ ⟨299,4,299,66⟩)
  ((.cons (.ite (.cmp .NotEq (.call 39 "_law_edge" (.cons (.cst (.int 3) 0 ⟨300,17,300,18⟩) (.cons (.sl (.var 11 "_law_paper" ⟨300,20,300,30⟩) .no (.so (.var 10 "_law_lines" ⟨300,32,300,42⟩)) ⟨300,20,300,43⟩ ⟨300,31,300,42⟩) .nil)) ⟨300,7,300,16⟩ ⟨300,7,300,44⟩) (.ife (.cmp .LtE (.var 10 "_law_lines" ⟨300,55,300,65⟩) (.cst (.int 12) 0 ⟨300,69,300,71⟩) ⟨300,55,300,71⟩) (.cst (.str "") 0 ⟨300,49,300,51⟩) (.cst (.str "paper") 0 ⟨300,77,300,84⟩) ⟨300,49,300,84⟩) ⟨300,7,300,85⟩) (.cons (.ret (.cst (.bool false) 0 ⟨301,15,301,20⟩) ⟨301,8,301,20⟩)
  .nil) .nil ⟨300,4,301,20⟩)
  ((.cons (.set 12 "_law_steps_asked" (.bin .Add (.cst (.int 398) 0 ⟨302,23,302,26⟩) (.bin .Mod (.ix (.var 1 "_law_row_here" ⟨302,29,302,42⟩) (.cst (.int 6) 0 ⟨302,43,302,44⟩) ⟨302,29,302,45⟩) (.cst (.int 6) 0 ⟨302,48,302,49⟩) ⟨302,29,302,49⟩) ⟨302,23,302,49⟩) ⟨302,4,302,20⟩ ⟨302,4,302,49⟩)
  ((.cons (.ret (.cmp .Eq (.call 39 "_law_edge" (.cons (.cst (.int 4) 0 ⟨303,21,303,22⟩) (.cons (.var 12 "_law_steps_asked" ⟨303,24,303,40⟩) .nil)) ⟨303,11,303,20⟩ ⟨303,11,303,41⟩) (.ife (.cmp .LtE (.var 12 "_law_steps_asked" ⟨303,52,303,68⟩) (.cst (.int 400) 0 ⟨303,72,303,75⟩) ⟨303,52,303,75⟩) (.cst (.str "") 0 ⟨303,46,303,48⟩) (.cst (.str "count") 0 ⟨303,81,303,88⟩) ⟨303,46,303,88⟩) ⟨303,11,303,89⟩) ⟨303,4,303,89⟩)
  .nil)))))))))))))))))))
def r_law_2 : Ss := (.cons (.set 6 "_law_extra" (.cst (.str "K") 0 ⟨288,17,288,20⟩) ⟨288,4,288,14⟩ ⟨288,4,288,20⟩)
  ((.cons (.for_ (.one 4 "_law_time" ⟨289,8,289,17⟩) (.rng (.cons (.bin .Add (.cst (.int 93) 0 ⟨289,27,289,29⟩) (.bin .Mod (.ix (.var 1 "_law_row_here" ⟨289,32,289,45⟩) (.cst (.int 3) 0 ⟨289,46,289,47⟩) ⟨289,32,289,48⟩) (.cst (.int 10) 0 ⟨289,51,289,53⟩) ⟨289,32,289,53⟩) ⟨289,27,289,53⟩) .nil) ⟨289,21,289,26⟩ ⟨289,21,289,54⟩) l_law_3 ⟨289,4,290,38⟩)
  r_law_3)))
def r_law_1 : Ss := (.cons (.ite (.cmp .NotEq (.call 39 "_law_edge" (.cons (.cst (.int 0) 0 ⟨283,17,283,18⟩) (.cons (.var 3 "_law_long" ⟨283,20,283,29⟩) .nil)) ⟨283,7,283,16⟩ ⟨283,7,283,30⟩) (.ife (.cmp .LtE (.var 2 "_law_many" ⟨283,41,283,50⟩) (.cst (.int 200) 0 ⟨283,54,283,57⟩) ⟨283,41,283,57⟩) (.cst (.str "") 0 ⟨283,35,283,37⟩) (.cst (.str "term") 0 ⟨283,63,283,69⟩) ⟨283,35,283,69⟩) ⟨283,7,283,70⟩) (.cons (.ret (.cst (.bool false) 0 ⟨284,15,284,20⟩) ⟨284,8,284,20⟩)
  .nil) .nil ⟨283,4,284,20⟩)
  ((.cons (.set 5 "_law_shared" (.cst (.str "x") 0 ⟨285,18,285,21⟩) ⟨285,4,285,15⟩ ⟨285,4,285,21⟩)
  ((.cons (.for_ (.one 4 "_law_time" ⟨286,8,286,17⟩) (.rng (.cons (.bin .Add (.cst (.int 49) 0 ⟨286,27,286,29⟩) (.bin .Mod (.ix (.var 1 "_law_row_here" ⟨286,32,286,45⟩) (.bin .Mod (.cst (.int 60) 0 ⟨286,46,286,48⟩) (.bi .len (.var 1 "_law_row_here" ⟨286,55,286,68⟩) ⟨286,51,286,54⟩ ⟨286,51,286,69⟩) ⟨286,46,286,69⟩) ⟨286,32,286,70⟩) (.cst (.int 6) 0 ⟨286,73,286,74⟩) ⟨286,32,286,74⟩) ⟨286,27,286,74⟩) .nil) ⟨286,21,286,26⟩ ⟨286,21,286,75⟩) l_law_2 ⟨286,4,287,40⟩)
  r_law_2)))))
def b_law : Ss := (.cons (.set 1 "_law_row_here" (.call 31 "_law_row" (.cons (.var 0 "_law_script" ⟨278,29,278,40⟩) (.cons (.cst (.int 1) 0 ⟨278,42,278,43⟩) .nil)) ⟨278,20,278,28⟩ ⟨278,20,278,44⟩) ⟨278,4,278,17⟩ ⟨278,4,278,44⟩)
  ((.cons (.set 2 "_law_many" (.bin .Add (.cst (.int 197) 0 ⟨279,16,279,19⟩) (.bin .Mod (.ix (.var 1 "_law_row_here" ⟨279,22,279,35⟩) (.cst (.int 0) 0 ⟨279,36,279,37⟩) ⟨279,22,279,38⟩) (.cst (.int 7) 0 ⟨279,41,279,42⟩) ⟨279,22,279,42⟩) ⟨279,16,279,42⟩) ⟨279,4,279,13⟩ ⟨279,4,279,42⟩)
  ((.cons (.set 3 "_law_long" (.call 33 "_law_leaf" (.cons (.ix (.var 1 "_law_row_here" ⟨280,26,280,39⟩) (.cst (.int 1) 0 ⟨280,40,280,41⟩) ⟨280,26,280,42⟩) .nil) ⟨280,16,280,25⟩ ⟨280,16,280,43⟩) ⟨280,4,280,13⟩ ⟨280,4,280,43⟩)
  ((.cons (.for_ (.one 4 "_law_time" ⟨281,8,281,17⟩) (.rng (.cons (.bin .Sub (.var 2 "_law_many" ⟨281,27,281,36⟩) (.cst (.int 1) 0 ⟨281,39,281,40⟩) ⟨281,27,281,40⟩) .nil) ⟨281,21,281,26⟩ ⟨281,21,281,41⟩) l_law_1 ⟨281,4,282,162⟩)
  r_law_1)))))))
def d0 : DefI := ⟨s0, "is_within", ["thing", "low", "high"], ["thing", "low", "high"], [], "", b_is_within⟩
def d1 : DefI := ⟨s1, "is_name", ["thing", "sign"], ["thing"], [], "", b_is_name⟩
def d2 : DefI := ⟨s2, "is_leaf", ["thing"], ["thing"], [], "", b_is_leaf⟩
def d3 : DefI := ⟨s3, "left_of", ["thing", "left"], ["thing", "left"], [], "", b_left_of⟩
def d4 : DefI := ⟨s4, "is_term", ["thing"], ["thing"], [], "", b_is_term⟩
def d5 : DefI := ⟨s5, "checked", ["term"], ["term"], [], "", b_checked⟩
def d6 : DefI := ⟨s6, "looked", ["term"], ["term"], [], "", b_looked⟩
def d7 : DefI := ⟨s7, "leaves", ["term"], ["term"], [], "", b_leaves⟩
def d8 : DefI := ⟨s8, "deed_of", ["term"], ["term"], [], "", b_deed_of⟩
def d9 : DefI := ⟨s9, "done", ["term", "first", "then", "shared"], ["term"], [], "", b_done⟩
def d10 : DefI := ⟨s10, "ways_of", ["term", "found", "way"], ["term"], [], "", b_ways_of⟩
def d11 : DefI := ⟨s11, "part_at", ["term", "way", "side"], ["term", "way"], [], "", b_part_at⟩
def d12 : DefI := ⟨s12, "with_part", ["term", "way", "other"], ["term", "way", "other"], [], "", b_with_part⟩
def d13 : DefI := ⟨s13, "look_way", ["term", "way", "found"], ["term", "way"], [], "", b_look_way⟩
def d14 : DefI := ⟨s14, "step_to", ["term", "way"], ["term", "way"], [], "", b_step_to⟩
def d15 : DefI := ⟨s15, "stepped", ["term", "way"], ["term", "way"], [], "", b_stepped⟩
def d16 : DefI := ⟨s16, "led", ["term", "row", "way"], ["term", "row"], [], "", b_led⟩
def d17 : DefI := ⟨s17, "played", ["term", "most", "row", "some"], ["term", "most"], [.int 50], "most", b_played⟩
def d18 : DefI := ⟨s18, "below", ["some", "way", "one"], ["some", "way"], [], "", b_below⟩
def d19 : DefI := ⟨s19, "look_ways", ["term", "some", "at", "way"], ["term", "some"], [], "", b_look_ways⟩
def d20 : DefI := ⟨s20, "all_done", ["term", "some", "first", "then", "shared"], ["term", "some"], [], "", b_all_done⟩
def d21 : DefI := ⟨s21, "moved", ["way", "some", "one"], ["way", "some"], [], "", b_moved⟩
def d22 : DefI := ⟨s22, "left", ["term", "some", "others", "found", "side", "inner", "first", "then", "shared"], ["term", "some", "others"], [], "", b_left⟩
def d23 : DefI := ⟨s23, "walked", ["term", "rows", "some"], ["term", "rows"], [], "", b_walked⟩
def d24 : DefI := ⟨s24, "woven", ["term", "ones", "others", "column", "some", "here", "side", "lower", "one", "ahead"], ["term", "ones", "others"], [], "", b_woven⟩
def d25 : DefI := ⟨s25, "meet", ["term", "one", "other", "first", "behind", "ahead", "way"], ["term", "one", "other"], [], "", b_meet⟩
def d26 : DefI := ⟨s26, "line_to", ["term", "line"], ["term", "line"], [], "", b_line_to⟩
def d27 : DefI := ⟨s27, "after", ["term", "way", "found"], ["term", "way"], [], "", b_after⟩
def d28 : DefI := ⟨s28, "end_of", ["term", "paper", "line"], ["term", "paper"], [], "", b_end_of⟩
def d29 : DefI := ⟨s29, "led_by", ["term", "paper", "found"], ["term", "paper"], [], "", b_led_by⟩
def d30 : DefI := ⟨s30, "_law_cell", ["_law_script", "_law_k"], ["_law_script", "_law_k"], [], "", b__law_cell⟩
def d31 : DefI := ⟨s31, "_law_row", ["_law_script", "_law_at", "_law_cell_here", "_law_found", "_law_time"], ["_law_script", "_law_at"], [], "", b__law_row⟩
def d32 : DefI := ⟨s32, "_law_name", ["_law_number"], ["_law_number"], [], "", b__law_name⟩
def d33 : DefI := ⟨s33, "_law_leaf", ["_law_number"], ["_law_number"], [], "", b__law_leaf⟩
def d34 : DefI := ⟨s34, "_law_leaves", ["_law_term"], ["_law_term"], [], "", b__law_leaves⟩
def d35 : DefI := ⟨s35, "_law_part", ["_law_term", "_law_way", "_law_side"], ["_law_term", "_law_way"], [], "", b__law_part⟩
def d36 : DefI := ⟨s36, "_law_with", ["_law_term", "_law_way", "_law_other"], ["_law_term", "_law_way", "_law_other"], [], "", b__law_with⟩
def d37 : DefI := ⟨s37, "_law_deed", ["_law_term", "_law_keeps", "_law_shares", "_law_many"], ["_law_term", "_law_keeps", "_law_shares"], [], "", b__law_deed⟩
def d38 : DefI := ⟨s38, "_law_step", ["_law_term", "_law_way", "_law_here", "_law_shared"], ["_law_term", "_law_way"], [], "", b__law_step⟩
def d39 : DefI := ⟨s39, "_law_edge", ["_law_way", "_law_thing"], ["_law_way", "_law_thing"], [], "", b__law_edge⟩
def d40 : DefI := ⟨s40, "law", ["_law_script", "_law_row_here", "_law_many", "_law_long", "_law_time", "_law_shared", "_law_extra", "_law_term", "_law_due", "_law_often", "_law_lines", "_law_paper", "_law_steps_asked"], ["_law_script"], [], "", b_law⟩
def defs : List DefI := [d0, d1, d2, d3, d4, d5, d6, d7, d8, d9, d10, d11, d12, d13, d14, d15, d16, d17, d18, d19, d20, d21, d22, d23, d24, d25, d26, d27, d28, d29, d30, d31, d32, d33, d34, d35, d36, d37, d38, d39, d40]
def globs : List (Str × D) := [("MOST_LEAVES", .int 200), ("SMALL", .str "abcdefghijklmnopqrstuvwxyz"), ("MOST_PLAYED", .int 400), ("MOST_ROW", .int 8), ("MOST_LINES", .int 12)]
def exns : List XInfo := [⟨"CopyError", none, [0, 99]⟩, ⟨"BadTerm", none, [1, 0, 99]⟩, ⟨"BadWay", some "way", [2, 0, 99]⟩, ⟨"BadCount", none, [3, 0, 99]⟩, ⟨"BadPaper", none, [4, 0, 99]⟩, ⟨"TooBig", none, [5, 0, 99]⟩]
def info : Info := ⟨globs, [⟨"is_within", 3, [], ""⟩, ⟨"is_name", 1, [], ""⟩, ⟨"is_leaf", 1, [], ""⟩, ⟨"left_of", 2, [], ""⟩, ⟨"is_term", 1, [], ""⟩, ⟨"checked", 1, [], ""⟩, ⟨"looked", 1, [], ""⟩, ⟨"leaves", 1, [], ""⟩, ⟨"deed_of", 1, [], ""⟩, ⟨"done", 1, [], ""⟩, ⟨"ways_of", 1, [], ""⟩, ⟨"part_at", 2, [], ""⟩, ⟨"with_part", 3, [], ""⟩, ⟨"look_way", 2, [], ""⟩, ⟨"step_to", 2, [], ""⟩, ⟨"stepped", 2, [], ""⟩, ⟨"led", 2, [], ""⟩, ⟨"played", 2, [.int 50], "most"⟩, ⟨"below", 2, [], ""⟩, ⟨"look_ways", 2, [], ""⟩, ⟨"all_done", 2, [], ""⟩, ⟨"moved", 2, [], ""⟩, ⟨"left", 3, [], ""⟩, ⟨"walked", 2, [], ""⟩, ⟨"woven", 3, [], ""⟩, ⟨"meet", 3, [], ""⟩, ⟨"line_to", 2, [], ""⟩, ⟨"after", 2, [], ""⟩, ⟨"end_of", 2, [], ""⟩, ⟨"led_by", 2, [], ""⟩, ⟨"_law_cell", 2, [], ""⟩, ⟨"_law_row", 2, [], ""⟩, ⟨"_law_name", 1, [], ""⟩, ⟨"_law_leaf", 1, [], ""⟩, ⟨"_law_leaves", 1, [], ""⟩, ⟨"_law_part", 2, [], ""⟩, ⟨"_law_with", 3, [], ""⟩, ⟨"_law_deed", 3, [], ""⟩, ⟨"_law_step", 2, [], ""⟩, ⟨"_law_edge", 2, [], ""⟩, ⟨"law", 1, [], ""⟩], exns⟩
abbrev x_CopyError : Nat := 0
abbrev x_BadTerm : Nat := 1
abbrev x_BadWay : Nat := 2
abbrev x_BadCount : Nat := 3
abbrev x_BadPaper : Nat := 4
abbrev x_TooBig : Nat := 5
theorem t0 : DefT info d0 := ⟨rfl, by decide +kernel, by decide +kernel⟩
theorem t1 : DefT info d1 := ⟨rfl, by decide +kernel, by decide +kernel⟩
theorem t2 : DefT info d2 := ⟨rfl, by decide +kernel, by decide +kernel⟩
theorem t3 : DefT info d3 := ⟨rfl, by decide +kernel, by decide +kernel⟩
theorem t4 : DefT info d4 := ⟨rfl, by decide +kernel, by decide +kernel⟩
theorem t5 : DefT info d5 := ⟨rfl, by decide +kernel, by decide +kernel⟩
theorem t6 : DefT info d6 := ⟨rfl, by decide +kernel, by decide +kernel⟩
theorem t7 : DefT info d7 := ⟨rfl, by decide +kernel, by decide +kernel⟩
theorem t8 : DefT info d8 := ⟨rfl, by decide +kernel, by decide +kernel⟩
theorem t9 : DefT info d9 := ⟨rfl, by decide +kernel, by decide +kernel⟩
theorem t10 : DefT info d10 := ⟨rfl, by decide +kernel, by decide +kernel⟩
theorem t11 : DefT info d11 := ⟨rfl, by decide +kernel, by decide +kernel⟩
theorem t12 : DefT info d12 := ⟨rfl, by decide +kernel, by decide +kernel⟩
theorem t13 : DefT info d13 := ⟨rfl, by decide +kernel, by decide +kernel⟩
theorem t14 : DefT info d14 := ⟨rfl, by decide +kernel, by decide +kernel⟩
theorem t15 : DefT info d15 := ⟨rfl, by decide +kernel, by decide +kernel⟩
theorem t16 : DefT info d16 := ⟨rfl, by decide +kernel, by decide +kernel⟩
theorem t17 : DefT info d17 := ⟨rfl, by decide +kernel, by decide +kernel⟩
theorem t18 : DefT info d18 := ⟨rfl, by decide +kernel, by decide +kernel⟩
theorem t19 : DefT info d19 := ⟨rfl, by decide +kernel, by decide +kernel⟩
theorem t20 : DefT info d20 := ⟨rfl, by decide +kernel, by decide +kernel⟩
theorem t21 : DefT info d21 := ⟨rfl, by decide +kernel, by decide +kernel⟩
theorem t22 : DefT info d22 := ⟨rfl, by decide +kernel, by decide +kernel⟩
theorem t23 : DefT info d23 := ⟨rfl, by decide +kernel, by decide +kernel⟩
theorem t24 : DefT info d24 := ⟨rfl, by decide +kernel, by decide +kernel⟩
theorem t25 : DefT info d25 := ⟨rfl, by decide +kernel, by decide +kernel⟩
theorem t26 : DefT info d26 := ⟨rfl, by decide +kernel, by decide +kernel⟩
theorem t27 : DefT info d27 := ⟨rfl, by decide +kernel, by decide +kernel⟩
theorem t28 : DefT info d28 := ⟨rfl, by decide +kernel, by decide +kernel⟩
theorem t29 : DefT info d29 := ⟨rfl, by decide +kernel, by decide +kernel⟩
theorem t30 : DefT info d30 := ⟨rfl, by decide +kernel, by decide +kernel⟩
theorem t31 : DefT info d31 := ⟨rfl, by decide +kernel, by decide +kernel⟩
theorem t32 : DefT info d32 := ⟨rfl, by decide +kernel, by decide +kernel⟩
theorem t33 : DefT info d33 := ⟨rfl, by decide +kernel, by decide +kernel⟩
theorem t34 : DefT info d34 := ⟨rfl, by decide +kernel, by decide +kernel⟩
theorem t35 : DefT info d35 := ⟨rfl, by decide +kernel, by decide +kernel⟩
theorem t36 : DefT info d36 := ⟨rfl, by decide +kernel, by decide +kernel⟩
theorem t37 : DefT info d37 := ⟨rfl, by decide +kernel, by decide +kernel⟩
theorem t38 : DefT info d38 := ⟨rfl, by decide +kernel, by decide +kernel⟩
theorem t39 : DefT info d39 := ⟨rfl, by decide +kernel, by decide +kernel⟩
theorem t40 : DefT info d40 := ⟨rfl, by decide +kernel, by decide +kernel⟩
abbrev C (k f : Nat) (args : List D) : R D := callF info defs k f args
theorem c_is_within (k : Nat) (args : List D) : C (k + 1) f_is_within args = runB info (callF info defs k) 3 b_is_within args := rfl
theorem c_is_name (k : Nat) (args : List D) : C (k + 1) f_is_name args = runB info (callF info defs k) 2 b_is_name args := rfl
theorem c_is_leaf (k : Nat) (args : List D) : C (k + 1) f_is_leaf args = runB info (callF info defs k) 1 b_is_leaf args := rfl
theorem c_left_of (k : Nat) (args : List D) : C (k + 1) f_left_of args = runB info (callF info defs k) 2 b_left_of args := rfl
theorem c_is_term (k : Nat) (args : List D) : C (k + 1) f_is_term args = runB info (callF info defs k) 1 b_is_term args := rfl
theorem c_checked (k : Nat) (args : List D) : C (k + 1) f_checked args = runB info (callF info defs k) 1 b_checked args := rfl
theorem c_looked (k : Nat) (args : List D) : C (k + 1) f_looked args = runB info (callF info defs k) 1 b_looked args := rfl
theorem c_leaves (k : Nat) (args : List D) : C (k + 1) f_leaves args = runB info (callF info defs k) 1 b_leaves args := rfl
theorem c_deed_of (k : Nat) (args : List D) : C (k + 1) f_deed_of args = runB info (callF info defs k) 1 b_deed_of args := rfl
theorem c_done (k : Nat) (args : List D) : C (k + 1) f_done args = runB info (callF info defs k) 4 b_done args := rfl
theorem c_ways_of (k : Nat) (args : List D) : C (k + 1) f_ways_of args = runB info (callF info defs k) 3 b_ways_of args := rfl
theorem c_part_at (k : Nat) (args : List D) : C (k + 1) f_part_at args = runB info (callF info defs k) 3 b_part_at args := rfl
theorem c_with_part (k : Nat) (args : List D) : C (k + 1) f_with_part args = runB info (callF info defs k) 3 b_with_part args := rfl
theorem c_look_way (k : Nat) (args : List D) : C (k + 1) f_look_way args = runB info (callF info defs k) 3 b_look_way args := rfl
theorem c_step_to (k : Nat) (args : List D) : C (k + 1) f_step_to args = runB info (callF info defs k) 2 b_step_to args := rfl
theorem c_stepped (k : Nat) (args : List D) : C (k + 1) f_stepped args = runB info (callF info defs k) 2 b_stepped args := rfl
theorem c_led (k : Nat) (args : List D) : C (k + 1) f_led args = runB info (callF info defs k) 3 b_led args := rfl
theorem c_played (k : Nat) (args : List D) : C (k + 1) f_played args = runB info (callF info defs k) 4 b_played args := rfl
theorem c_below (k : Nat) (args : List D) : C (k + 1) f_below args = runB info (callF info defs k) 3 b_below args := rfl
theorem c_look_ways (k : Nat) (args : List D) : C (k + 1) f_look_ways args = runB info (callF info defs k) 4 b_look_ways args := rfl
theorem c_all_done (k : Nat) (args : List D) : C (k + 1) f_all_done args = runB info (callF info defs k) 5 b_all_done args := rfl
theorem c_moved (k : Nat) (args : List D) : C (k + 1) f_moved args = runB info (callF info defs k) 3 b_moved args := rfl
theorem c_left (k : Nat) (args : List D) : C (k + 1) f_left args = runB info (callF info defs k) 9 b_left args := rfl
theorem c_walked (k : Nat) (args : List D) : C (k + 1) f_walked args = runB info (callF info defs k) 3 b_walked args := rfl
theorem c_woven (k : Nat) (args : List D) : C (k + 1) f_woven args = runB info (callF info defs k) 10 b_woven args := rfl
theorem c_meet (k : Nat) (args : List D) : C (k + 1) f_meet args = runB info (callF info defs k) 7 b_meet args := rfl
theorem c_line_to (k : Nat) (args : List D) : C (k + 1) f_line_to args = runB info (callF info defs k) 2 b_line_to args := rfl
theorem c_after (k : Nat) (args : List D) : C (k + 1) f_after args = runB info (callF info defs k) 3 b_after args := rfl
theorem c_end_of (k : Nat) (args : List D) : C (k + 1) f_end_of args = runB info (callF info defs k) 3 b_end_of args := rfl
theorem c_led_by (k : Nat) (args : List D) : C (k + 1) f_led_by args = runB info (callF info defs k) 3 b_led_by args := rfl
theorem c__law_cell (k : Nat) (args : List D) : C (k + 1) f__law_cell args = runB info (callF info defs k) 2 b__law_cell args := rfl
theorem c__law_row (k : Nat) (args : List D) : C (k + 1) f__law_row args = runB info (callF info defs k) 5 b__law_row args := rfl
theorem c__law_name (k : Nat) (args : List D) : C (k + 1) f__law_name args = runB info (callF info defs k) 1 b__law_name args := rfl
theorem c__law_leaf (k : Nat) (args : List D) : C (k + 1) f__law_leaf args = runB info (callF info defs k) 1 b__law_leaf args := rfl
theorem c__law_leaves (k : Nat) (args : List D) : C (k + 1) f__law_leaves args = runB info (callF info defs k) 1 b__law_leaves args := rfl
theorem c__law_part (k : Nat) (args : List D) : C (k + 1) f__law_part args = runB info (callF info defs k) 3 b__law_part args := rfl
theorem c__law_with (k : Nat) (args : List D) : C (k + 1) f__law_with args = runB info (callF info defs k) 3 b__law_with args := rfl
theorem c__law_deed (k : Nat) (args : List D) : C (k + 1) f__law_deed args = runB info (callF info defs k) 4 b__law_deed args := rfl
theorem c__law_step (k : Nat) (args : List D) : C (k + 1) f__law_step args = runB info (callF info defs k) 4 b__law_step args := rfl
theorem c__law_edge (k : Nat) (args : List D) : C (k + 1) f__law_edge args = runB info (callF info defs k) 2 b__law_edge args := rfl
theorem c_law (k : Nat) (args : List D) : C (k + 1) f_law args = runB info (callF info defs k) 13 b_law args := rfl
@[simp] theorem i_is_within : info.fns[0]? = some ⟨"is_within", 3, [], ""⟩ := rfl
@[simp] theorem i_is_name : info.fns[1]? = some ⟨"is_name", 1, [], ""⟩ := rfl
@[simp] theorem i_is_leaf : info.fns[2]? = some ⟨"is_leaf", 1, [], ""⟩ := rfl
@[simp] theorem i_left_of : info.fns[3]? = some ⟨"left_of", 2, [], ""⟩ := rfl
@[simp] theorem i_is_term : info.fns[4]? = some ⟨"is_term", 1, [], ""⟩ := rfl
@[simp] theorem i_checked : info.fns[5]? = some ⟨"checked", 1, [], ""⟩ := rfl
@[simp] theorem i_looked : info.fns[6]? = some ⟨"looked", 1, [], ""⟩ := rfl
@[simp] theorem i_leaves : info.fns[7]? = some ⟨"leaves", 1, [], ""⟩ := rfl
@[simp] theorem i_deed_of : info.fns[8]? = some ⟨"deed_of", 1, [], ""⟩ := rfl
@[simp] theorem i_done : info.fns[9]? = some ⟨"done", 1, [], ""⟩ := rfl
@[simp] theorem i_ways_of : info.fns[10]? = some ⟨"ways_of", 1, [], ""⟩ := rfl
@[simp] theorem i_part_at : info.fns[11]? = some ⟨"part_at", 2, [], ""⟩ := rfl
@[simp] theorem i_with_part : info.fns[12]? = some ⟨"with_part", 3, [], ""⟩ := rfl
@[simp] theorem i_look_way : info.fns[13]? = some ⟨"look_way", 2, [], ""⟩ := rfl
@[simp] theorem i_step_to : info.fns[14]? = some ⟨"step_to", 2, [], ""⟩ := rfl
@[simp] theorem i_stepped : info.fns[15]? = some ⟨"stepped", 2, [], ""⟩ := rfl
@[simp] theorem i_led : info.fns[16]? = some ⟨"led", 2, [], ""⟩ := rfl
@[simp] theorem i_played : info.fns[17]? = some ⟨"played", 2, [.int 50], "most"⟩ := rfl
@[simp] theorem i_below : info.fns[18]? = some ⟨"below", 2, [], ""⟩ := rfl
@[simp] theorem i_look_ways : info.fns[19]? = some ⟨"look_ways", 2, [], ""⟩ := rfl
@[simp] theorem i_all_done : info.fns[20]? = some ⟨"all_done", 2, [], ""⟩ := rfl
@[simp] theorem i_moved : info.fns[21]? = some ⟨"moved", 2, [], ""⟩ := rfl
@[simp] theorem i_left : info.fns[22]? = some ⟨"left", 3, [], ""⟩ := rfl
@[simp] theorem i_walked : info.fns[23]? = some ⟨"walked", 2, [], ""⟩ := rfl
@[simp] theorem i_woven : info.fns[24]? = some ⟨"woven", 3, [], ""⟩ := rfl
@[simp] theorem i_meet : info.fns[25]? = some ⟨"meet", 3, [], ""⟩ := rfl
@[simp] theorem i_line_to : info.fns[26]? = some ⟨"line_to", 2, [], ""⟩ := rfl
@[simp] theorem i_after : info.fns[27]? = some ⟨"after", 2, [], ""⟩ := rfl
@[simp] theorem i_end_of : info.fns[28]? = some ⟨"end_of", 2, [], ""⟩ := rfl
@[simp] theorem i_led_by : info.fns[29]? = some ⟨"led_by", 2, [], ""⟩ := rfl
@[simp] theorem i__law_cell : info.fns[30]? = some ⟨"_law_cell", 2, [], ""⟩ := rfl
@[simp] theorem i__law_row : info.fns[31]? = some ⟨"_law_row", 2, [], ""⟩ := rfl
@[simp] theorem i__law_name : info.fns[32]? = some ⟨"_law_name", 1, [], ""⟩ := rfl
@[simp] theorem i__law_leaf : info.fns[33]? = some ⟨"_law_leaf", 1, [], ""⟩ := rfl
@[simp] theorem i__law_leaves : info.fns[34]? = some ⟨"_law_leaves", 1, [], ""⟩ := rfl
@[simp] theorem i__law_part : info.fns[35]? = some ⟨"_law_part", 2, [], ""⟩ := rfl
@[simp] theorem i__law_with : info.fns[36]? = some ⟨"_law_with", 3, [], ""⟩ := rfl
@[simp] theorem i__law_deed : info.fns[37]? = some ⟨"_law_deed", 3, [], ""⟩ := rfl
@[simp] theorem i__law_step : info.fns[38]? = some ⟨"_law_step", 2, [], ""⟩ := rfl
@[simp] theorem i__law_edge : info.fns[39]? = some ⟨"_law_edge", 2, [], ""⟩ := rfl
@[simp] theorem i_law : info.fns[40]? = some ⟨"law", 1, [], ""⟩ := rfl
@[simp] theorem e_CopyError : info.exs[0]? = some ⟨"CopyError", none, [0, 99]⟩ := rfl
@[simp] theorem e_BadTerm : info.exs[1]? = some ⟨"BadTerm", none, [1, 0, 99]⟩ := rfl
@[simp] theorem e_BadWay : info.exs[2]? = some ⟨"BadWay", some "way", [2, 0, 99]⟩ := rfl
@[simp] theorem e_BadCount : info.exs[3]? = some ⟨"BadCount", none, [3, 0, 99]⟩ := rfl
@[simp] theorem e_BadPaper : info.exs[4]? = some ⟨"BadPaper", none, [4, 0, 99]⟩ := rfl
@[simp] theorem e_TooBig : info.exs[5]? = some ⟨"TooBig", none, [5, 0, 99]⟩ := rfl
abbrev sI_BadWay : Stmt := (clsBody (tp 3)).getD 0 (.Pass ⟨0, 0, 0, 0⟩)
theorem tI_BadWay : IniF sI_BadWay "CopyError" "way" "it leads to no step" := ⟨⟨_, _, _, _, _, _, _, _, _, _, _, rfl, fun env => ⟨_, rfl⟩⟩, scOk_of (by decide +kernel), by decide +kernel, by decide +kernel, by decide +kernel⟩
@[simp] theorem v_MOST_LEAVES : info.globs[0]? = some (("MOST_LEAVES" : Str), (.int 200 : D)) := rfl
@[simp] theorem v_SMALL : info.globs[1]? = some (("SMALL" : Str), (.str "abcdefghijklmnopqrstuvwxyz" : D)) := rfl
@[simp] theorem v_MOST_PLAYED : info.globs[2]? = some (("MOST_PLAYED" : Str), (.int 400 : D)) := rfl
@[simp] theorem v_MOST_ROW : info.globs[3]? = some (("MOST_ROW" : Str), (.int 8 : D)) := rfl
@[simp] theorem v_MOST_LINES : info.globs[4]? = some (("MOST_LINES" : Str), (.int 12 : D)) := rfl
end K30

namespace K30
open PySem CH
theorem wp_cons {P : Po} {F : FT} {s : S} {r : Ss} {ρ : List Sl} (h : ∀ J : List Sl → Prop, (∀ ρ', wp P (exb info F r ρ') → J ρ') → wp { P with nx := J } (exs info F s ρ)) : wp P (exb info F (.cons s r) ρ) := by
  have := h (fun ρ' => wp P (exb info F r ρ')) fun _ => id
  rw [exb, wp_seq]
  exact this
theorem wp_ite_f {P : Po} {F : FT} {t : E} {a b : Ss} {p : Pos} {ρ : List Sl} (ht : (ev info F t).t ρ = .ok false) (h : wp P (exb info F b ρ)) : wp P (exs info F (.ite t a b p) ρ) := by
  show wp P (onR ((ev info F t).t ρ) ρ fun k => if k = true then exb info F a ρ else exb info F b ρ)
  rw [ht]
  exact h
theorem wp_ite_t {P : Po} {F : FT} {t : E} {a b : Ss} {p : Pos} {ρ : List Sl} (ht : (ev info F t).t ρ = .ok true) (h : wp P (exb info F a ρ)) : wp P (exs info F (.ite t a b p) ρ) := by
  show wp P (onR ((ev info F t).t ρ) ρ fun k => if k = true then exb info F a ρ else exb info F b ρ)
  rw [ht]
  exact h
end K30

namespace K30
open PySem CH
theorem law_cell {k : Nat} (h : 1 ≤ k) (ns : List Int) (i : Nat) : callF info defs k f__law_cell [.list (ns.map .int), .int i] = .ok (.int (ns[i]?.getD 0)) := by
  obtain ⟨k, rfl⟩ : ∃ j, k = j + 1 := ⟨k - 1, by omega⟩
  refine (c__law_cell _ _).trans ?_
  simp [b__law_cell]
  split
  · rename_i hi
    rw [at_nat (n := i) (x := .int ns[i]) _ (by simp [hi])]
    simp [hi]
  · rename_i hi
    simp [List.getElem?_eq_none (by omega : ns.length ≤ i)]
/-- a row: sixty small numbers -/
structure Row (r : List Nat) : Prop where
  len : r.length = 60
  lt : ∀ x ∈ r, x < 1000
theorem small_nat {x : Int} (h1 : 0 ≤ x) (h2 : x < 1000) : ∃ n : Nat, n < 1000 ∧ x = (n : Int) := ⟨x.toNat, by omega, by omega⟩
theorem law_row {k : Nat} (h : 2 ≤ k) (ns : List Int) (i : Nat) : ∃ r, Row r ∧ callF info defs k f__law_row [.list (ns.map .int), .int i] = .ok (.list (nD r)) := by
  obtain ⟨k, rfl⟩ : ∃ j, k = j + 2 := ⟨k - 2, by omega⟩
  have hc : ∀ j : Nat, callF info defs (k + 1) f__law_cell [.list (ns.map .int), .int j] = .ok (.int (ns[j]?.getD 0)) := law_cell (by omega) ns
  have hc2 : ∀ j : Nat, callF info defs (k + 1) f__law_cell [.list (ns.map .int), .int (((i : Int) + 1 + (j : Int)) % 20)] = .ok (.int (ns[(i + 1 + j) % 20]?.getD 0)) := fun j => by
    rw [show ((i : Int) + 1 + (j : Int)) % 20 = (((i + 1 + j) % 20 : Nat) : Int) by omega]
    exact hc _
  suffices g : Gv (fun d => ∃ r, Row r ∧ d = .list (nD r)) (callF info defs (k + 2) f__law_row [.list (ns.map .int), .int i]) by
    obtain ⟨d, e, r, hr, rfl⟩ := g
    exact ⟨r, hr, e⟩
  rw [show callF info defs (k + 2) f__law_row [.list (ns.map .int), .int i] = _ from c__law_row _ _]
  generalize callF info defs (k + 1) = F at *
  refine gv_out ?_
  simp [b__law_row, hc, o_rg1 60 (by decide)]
  refine wp_for (fun n ρ => ∃ (c : Int) (f : List Nat) (s : Sl), ρ = [.dat (.list (ns.map .int)), .dat (.int i), .dat (.int c), .own (nD f), s] ∧ f.length = n ∧ ∀ x ∈ f, x < 1000) ⟨_, [], _, rfl, rfl, by simp⟩ ?_ ?_
  · rintro n d ρ hd ⟨c, f, s, rfl, hl, hx⟩
    obtain ⟨hn, rfl⟩ := rng_at hd
    have hn : n < 60 := by omega
    have hfl : f.length < lim := by show f.length < 1000000; omega
    have key : ∀ z : Int, ∃ f', (∀ x : Int, x = z → nD f ++ [.int (x % 1000)] = nD f') ∧ f'.length = n + 1 ∧ ∀ x ∈ f', x < 1000 := fun z => by
      obtain ⟨m, h1, h2⟩ := small_nat (x := z % 1000) (by omega) (by omega)
      refine ⟨f ++ [m], fun x e => ?_, by simp [hl], fun x hx' => ?_⟩
      · rw [nD_app, e, h2]; rfl
      · rcases List.mem_append.mp hx' with h | h
        · exact hx x h
        · rw [List.mem_singleton.mp h]; exact h1
    refine ⟨_, rfl, ?_⟩
    simp [l__law_row_1, hc, hc2, dPow, o_mulI _ 48271, o_mulI 131 n (by omega) (by omega), o_modI, o_divI, hfl]
    split
    · generalize (c * 48271 + 131 * (n : Int) + 7 + ns[(i + 1 + n) % 20]?.getD 0) % 2147483647 = c'
      obtain ⟨f', e, h1, h2⟩ := key (c' / 11)
      exact ⟨_, f', ⟨rfl, e _ rfl⟩, h1, h2⟩
    · obtain ⟨f', e, h1, h2⟩ := key c
      exact ⟨_, f', ⟨rfl, e _ rfl⟩, h1, h2⟩
  · rintro ρ ⟨c, f, s, rfl, hl, hx⟩
    simp at hl
    simp [r__law_row_1]
    exact ⟨f, ⟨hl, hx⟩, rfl⟩
theorem filt_all {α : Type} (p : α → Bool) : ∀ l : List α, (l.filter fun c => !p c).isEmpty = l.all p
  | [] => rfl
  | a :: r => by
    have ih := filt_all p r
    cases h : p a
    · rw [List.filter_cons_of_pos (by rw [h]; rfl)]
      simp [h]
    · rw [List.filter_cons_of_neg (by rw [h]; exact Bool.false_ne_true), ih]
      simp [h]
theorem is_name_ok {k : Nat} (h : 1 ≤ k) (s : Str) (hs : s.length ≤ lim) : callF info defs k f_is_name [.str s] = .ok (.bool (isName s)) := by
  obtain ⟨k, rfl⟩ : ∃ j, k = j + 1 := ⟨k - 1, by omega⟩
  refine (c_is_name _ _).trans ?_
  generalize callF info defs k = F
  simp [b_is_name, hs, it_str]
  rw [compL_map chD (fun c => !decide (c ∈ smallS.cps.toList)) chD]
  · simp [isName, slen]
    by_cases h1 : 1 ≤ s.cps.size
    · by_cases h2 : s.cps.size ≤ 3
      · simp [show (1 : Int) ≤ s.cps.size by omega, show (s.cps.size : Int) ≤ 3 by omega, h1, h2]
        rw [show (List.filter (fun c => !decide (c ∈ smallS.cps)) s.cps.toList).isEmpty = s.cps.toList.all (fun c => decide (c ∈ smallS.cps)) from filt_all _ _, Array.all_toList]
      · simp [show ¬ (s.cps.size : Int) ≤ 3 by omega, h2]
    · simp [show ¬ (1 : Int) ≤ s.cps.size by omega, h1]
  · intro c hc
    refine ⟨_, rfl, by simp; rfl, by simp⟩
theorem is_leaf_ok {k : Nat} (h : 2 ≤ k) (s : Str) (hs : s.length ≤ lim) : callF info defs k f_is_leaf [.str s] = .ok (.bool (isLeaf s)) := by
  obtain ⟨k, rfl⟩ : ∃ j, k = j + 1 := ⟨k - 1, by omega⟩
  have hn := is_name_ok (k := k) (by omega) s hs
  refine (c_is_leaf _ _).trans ?_
  generalize callF info defs k = F at *
  simp [b_is_leaf, hn, isLeaf]
  split
  · rename_i e; simp [e]
  · split
    · rename_i e; simp [e]
    · rename_i e1 e2; simp [e1, e2]
def nameB (m r : Nat) : Bool := match (dIx (.str smallS) (.int m)).bind fun d => dMul d (.int (1 + r)) with
  | some (.str s) => isName s
  | _ => false
theorem nameB_ok : ∀ m, m < 26 → ∀ r, r < 3 → nameB m r = true := by decide +kernel
theorem name_mk {m r : Nat} (hm : m < 26) (hr : r < 3) : ∃ d s, isName s = true ∧ dIx (.str smallS) (.int m) = some d ∧ dMul d (.int (1 + r)) = some (.str s) := by
  have z := nameB_ok m hm r hr
  unfold nameB at z
  cases e : dIx (.str smallS) (.int m) with
  | none => rw [e] at z; cases z
  | some d =>
    rw [e] at z
    cases e2 : dMul d (.int (1 + r)) with
    | none => rw [Option.bind_some, e2] at z; cases z
    | some y =>
      rw [Option.bind_some, e2] at z
      cases y with
      | str s => exact ⟨d, s, z, rfl, e2⟩
      | _ => cases z
theorem law_name {k : Nat} (h : 1 ≤ k) (n : Nat) : ∃ s, isName s = true ∧ callF info defs k f__law_name [.int n] = .ok (.str s) := by
  obtain ⟨k, rfl⟩ : ∃ j, k = j + 1 := ⟨k - 1, by omega⟩
  rw [show callF info defs (k + 1) f__law_name [.int n] = _ from c__law_name _ _]
  generalize callF info defs k = F at *
  simp [b__law_name, o_modI, o_divI]
  split
  · rcases (show (n : Int) / 5 % 4 = 0 ∨ (n : Int) / 5 % 4 = 1 ∨ (n : Int) / 5 % 4 = 2 ∨ (n : Int) / 5 % 4 = 3 by omega) with e | e | e | e
    · exact ⟨"x", by decide +kernel, by rw [e]; simp⟩
    · exact ⟨"y", by decide +kernel, by rw [e]; simp⟩
    · exact ⟨"z", by decide +kernel, by rw [e]; simp⟩
    · exact ⟨"f", by decide +kernel, by rw [e]; simp [show ∀ (a b c d : D), L2.atI [a, b, c, d] 3 = some d from fun a b c d => at_nat (n := 3) _ rfl]⟩
  · obtain ⟨d, s, h1, h2, h3⟩ := name_mk (m := n / 5 % 26) (r := n / 130 % 3) (by omega) (by omega)
    refine ⟨s, h1, ?_⟩
    have h2 : dIx (.str "abcdefghijklmnopqrstuvwxyz") (.int (↑n / 5 % 26)) = some d := by rw [← h2]; simp [smallS]
    have h3 : dMul d (.int (1 + ↑n / 130 % 3)) = some (.str s) := by rw [← h3]; simp
    rw [h2]
    simp [h3]
end K30

namespace K30
open PySem CH
theorem row_at {r : List Nat} (h : Row r) {i : Nat} (hi : i < 60) : ∃ x : Nat, x < 1000 ∧ L2.atI (nD r) (i : Int) = some (.int (x : Int)) := by
  have hl : i < r.length := by rw [h.len]; exact hi
  exact ⟨r[i], h.lt _ (List.getElem_mem hl), at_nat _ (nD_get (List.getElem?_eq_getElem hl))⟩
theorem row_mod {r : List Nat} (h : Row r) (i : Nat) : ∃ x : Nat, x < 1000 ∧ L2.atI (nD r) ((i : Int) % 60) = some (.int (x : Int)) := by
  obtain ⟨x, h1, h2⟩ := row_at h (i := i % 60) (by omega)
  exact ⟨x, h1, by rw [← h2]; simp⟩
/-- the number at i, or 0 -/
theorem row_or {r : List Nat} (h : Row r) (i : Nat) : ∃ z : Nat, ((i : Int) < 60 ∧ L2.atI (nD r) (i : Int) = some (.int (z : Int))) ∨ (¬ (i : Int) < 60 ∧ z = 0) := by
  by_cases hi : i < 60
  · obtain ⟨x, _, e⟩ := row_at h hi
    exact ⟨x, .inl ⟨by omega, e⟩⟩
  · exact ⟨0, .inr ⟨by omega, rfl⟩⟩
end K30

namespace K30
open PySem CH
theorem law_leaf {k : Nat} (h : 2 ≤ k) (n : Nat) : ∃ s, isLeaf s = true ∧ s.length ≤ lim ∧ callF info defs k f__law_leaf [.int n] = .ok (.str s) := by
  obtain ⟨k, rfl⟩ : ∃ j, k = j + 1 := ⟨k - 1, by omega⟩
  obtain ⟨s, h1, h2⟩ := law_name (k := k) (by omega) (n / 3)
  rw [show callF info defs (k + 1) f__law_leaf [.int n] = _ from c__law_leaf _ _]
  generalize callF info defs k = F at *
  have h2 : F f__law_name [.int (↑n / 3)] = .ok (.str s) := by rw [← h2]; simp
  simp [b__law_leaf, o_modI, o_divI, h2]
  split
  · rcases (show (n : Int) % 3 = 0 ∨ (n : Int) % 3 = 1 by omega) with e | e
    · exact ⟨"K", by decide +kernel, by decide +kernel, by rw [e]; rfl⟩
    · exact ⟨"S", by decide +kernel, by decide +kernel, by rw [e]; rfl⟩
  · refine ⟨s, by simp [isLeaf, h1], ?_, rfl⟩
    unfold isName at h1
    simp only [Bool.and_eq_true, decide_eq_true_eq] at h1
    have := h1.1.2
    show s.length ≤ 1000000
    omega
end K30

namespace K30
open PySem CH
/-- a term and the place behind it -/
structure Grn (at_ deep : Nat) (t : Tm) (e : Nat) : Prop where
  ok : t.ok = true
  lt : at_ < e
  lv : t.lv ≤ e - at_
  hi : e ≤ max (at_ + 1) (37 + 2 * deep)
  dp : t.dp ≤ 3 * deep
end K30

namespace K30
open PySem CH
theorem law_leaves : ∀ (t : Tm) {k : Nat}, t.dp + 1 ≤ k → callF info defs k f__law_leaves [t.d] = .ok (.int (t.lv : Int))
  | .lf s, k, hk => by
    obtain ⟨k, rfl⟩ : ∃ j, k = j + 1 := ⟨k - 1, by omega⟩
    refine (c__law_leaves _ _).trans ?_
    simp [b__law_leaves, Tm.d, Tm.lv]
  | .ap a b, k, hk => by
    obtain ⟨k, rfl⟩ : ∃ j, k = j + 1 := ⟨k - 1, by omega⟩
    have hk : max a.dp b.dp + 1 + 1 ≤ k + 1 := hk
    have h1 := law_leaves a (k := k) (by omega)
    have h2 := law_leaves b (k := k) (by omega)
    refine (c__law_leaves _ _).trans ?_
    generalize callF info defs k = F at *
    simp [b__law_leaves, Tm.d, Tm.lv, h1, h2]
theorem way_cmp (x : Nat) (l : List (List Nat)) (bd : D → Option (List Sl)) (test : M Bool) (elt : M D) (h : ∀ w ∈ l, ∃ ρ, bd (wD w) = some ρ ∧ test ρ = .ok true ∧ elt ρ = .ok (wD (x :: w))) :
    compL bd test elt (l.map wD) = .ok ((l.map (x :: ·)).map wD) := by
  rw [compL_map wD (fun _ => true) (fun w => wD (x :: w)) fun w hw => ?_]
  · rw [List.filter_eq_self.mpr fun _ _ => rfl, List.map_map]; rfl
  · obtain ⟨ρ, e1, e2, e3⟩ := h w hw
    exact ⟨ρ, e1, e2, fun _ => e3⟩
theorem law_part {k : Nat} (h : 1 ≤ k) (t u : Tm) (w : List Nat) (hp : t.part w = some u) : callF info defs k f__law_part [t.d, wD w] = .ok u.d := by
  obtain ⟨k, rfl⟩ : ∃ j, k = j + 1 := ⟨k - 1, by omega⟩
  refine (c__law_part _ _).trans ?_
  generalize callF info defs k = F at *
  refine gv_eq (gv_out ?_)
  simp [b__law_part, wD]
  refine wp_for (fun n ρ => ∃ (v : Tm) (s : Sl), ρ = [.dat v.d, .dat (wD w), s] ∧ v.part (w.drop n) = some u) ⟨t, _, rfl, hp⟩ ?_ ?_
  · rintro n d ρ hd ⟨v, s, rfl, e⟩
    obtain ⟨x, hx, rfl⟩ := nD_at hd
    rw [drop_at hx] at e
    refine ⟨_, rfl, ?_⟩
    match v, x, e with
    | .lf q, x, e => simp [Tm.part] at e
    | .ap a b, 0, e => simp [l__law_part_1, Tm.d]; exact ⟨a, rfl, e⟩
    | .ap a b, 1, e => simp [l__law_part_1, Tm.d]; exact ⟨b, rfl, e⟩
    | .ap a b, x + 2, e => simp [Tm.part] at e
  · rintro ρ ⟨v, s, rfl, e⟩
    simp at e
    rw [Tm.part_nil] at e
    cases e
    simp [r__law_part_1]
theorem law_with : ∀ (w : List Nat) {k : Nat} (t u o : Tm), t.part w = some u → w.length + 1 ≤ k → callF info defs k f__law_with [t.d, wD w, o.d] = .ok (t.put w o).d
  | [], k, t, u, o, h, hk => by
    obtain ⟨k, rfl⟩ : ∃ j, k = j + 1 := ⟨k - 1, by omega⟩
    refine (c__law_with _ _).trans ?_
    generalize callF info defs k = F at *
    simp [b__law_with, wD, eq_tnil, Tm.put]
  | x :: w, k, .lf s, u, o, h, hk => by simp [Tm.part] at h
  | 0 :: w, k, .ap a b, u, o, h, hk => by
    obtain ⟨k, rfl⟩ : ∃ j, k = j + 1 := ⟨k - 1, by omega⟩
    have ih := law_with w (k := k) a u o h (by simp at hk; omega)
    refine (c__law_with _ _).trans ?_
    generalize callF info defs k = F at *
    simp only [wD] at ih
    simp [b__law_with, wD, eq_tnil, Tm.put, Tm.d, cut_tail, ih]
  | 1 :: w, k, .ap a b, u, o, h, hk => by
    obtain ⟨k, rfl⟩ : ∃ j, k = j + 1 := ⟨k - 1, by omega⟩
    have ih := law_with w (k := k) b u o h (by simp at hk; omega)
    refine (c__law_with _ _).trans ?_
    generalize callF info defs k = F at *
    simp only [wD] at ih
    simp [b__law_with, wD, eq_tnil, Tm.put, Tm.d, cut_tail, ih]
  | (x + 2) :: w, k, .ap a b, u, o, h, hk => by simp [Tm.part] at h
theorem law_deed {k : Nat} (h : 1 ≤ k) (t : Tm) (ks ss : Str) (hl : t.dp ≤ 10000) : callF info defs k f__law_deed [t.d, .str ks, .str ss] = .ok (.int (t.deedL ks ss : Nat)) := by
  obtain ⟨k, rfl⟩ : ∃ j, k = j + 1 := ⟨k - 1, by omega⟩
  refine (c__law_deed _ _).trans ?_
  generalize callF info defs k = F at *
  refine gv_eq (gv_out ?_)
  simp [b__law_deed]
  refine wp_while (fun m ρ => ∃ (u : Tm) (n : Nat), ρ = [.dat u.d, .dat (.str ks), .dat (.str ss), .dat (.int (n : Int))] ∧ u.dp ≤ m ∧ t.hd = (u.hd.1, u.hd.2 + n)) 10001 (by show 10001 < 1000000; decide) ⟨t, 0, by simp, by omega, by simp⟩ ?_
  rintro m ρ ⟨u, n, rfl, h1, h2⟩
  match u, h1, h2 with
  | .lf q, h1, h2 =>
    refine .inl ⟨by simp [Tm.d], ?_⟩
    simp [Tm.hd] at h2
    have e : t.deedL ks ss = if q = ks ∧ n = 2 then 2 else if q = ss ∧ n = 3 then 3 else 0 := by
      unfold Tm.deedL; rw [h2]; simp
    rw [e]
    simp [r__law_deed_1, Tm.d]
    by_cases c1 : q = ks
    · by_cases c2 : n = 2
      · simp [c1, c2]
      · have c2' : ¬ (n : Int) = 2 := by omega
        simp [c1, c2, c2']
        by_cases c3 : ks = ss
        · by_cases c4 : n = 3
          · simp [c3, c4]
          · have c4' : ¬ (n : Int) = 3 := by omega
            simp [c3, c4, c4']
        · simp [c3]
    · simp [c1]
      by_cases c3 : q = ss
      · by_cases c4 : n = 3
        · simp [c3, c4]
        · have c4' : ¬ (n : Int) = 3 := by omega
          simp [c3, c4, c4']
      · simp [c3]
  | .ap a b, h1, h2 =>
    refine .inr ⟨by simp [Tm.d], ?_⟩
    simp [l__law_deed_1, Tm.d]
    have h1 : max a.dp b.dp + 1 ≤ m := h1
    refine ⟨m - 1, by omega, a, n + 1, ⟨rfl, by omega⟩, by omega, ?_⟩
    rw [h2]
    simp [Tm.hd]; omega
theorem law_step {k : Nat} (t : Tm) (w : List Nat) (hr : t.red w) (hk : w.length + 2 ≤ k) (hd : t.dp ≤ 10000) : callF info defs k f__law_step [t.d, wD w] = .ok (t.step w).d := by
  obtain ⟨k, rfl⟩ : ∃ j, k = j + 1 := ⟨k - 1, by omega⟩
  obtain ⟨u, hp, hu⟩ := hr
  have h2 := law_part (k := k) (by omega) t u w hp
  have h3 := law_deed (k := k) (by omega) u "K" "S" (Nat.le_trans (t.part_dp w u hp) hd)
  have h4 : ∀ o : Tm, callF info defs k f__law_with [t.d, wD w, o.d] = .ok (t.put w o).d := fun o => law_with w t u o hp (by omega)
  have hst : t.step w = t.put w u.done := by unfold Tm.step; rw [hp]
  rw [hst]
  refine (c__law_step _ _).trans ?_
  generalize callF info defs k = F at *
  rcases Tm.deed_cases hu with ⟨x, b, rfl⟩ | ⟨x, y, b, rfl⟩
  · have e : (Tm.ap (.ap (.lf "K") x) b).deedL "K" "S" = 2 := by simp [Tm.deedL, Tm.hd]
    rw [e] at h3
    simp [Tm.d] at h2 h3
    have h4 := h4 x
    simp [b__law_step, h2, h3, Tm.d, Tm.done, h4]
  · have e : (Tm.ap (.ap (.ap (.lf "S") x) y) b).deedL "K" "S" = 3 := by simp [Tm.deedL, Tm.hd]
    rw [e] at h3
    simp [Tm.d] at h2 h3
    have h4 := h4 (.ap (.ap x b) (.ap y b))
    simp [Tm.d] at h4
    simp [b__law_step, h2, h3, Tm.d, Tm.done, h4]
end K30

namespace K30
open PySem CH
theorem leaf_len {s : Str} (h : isLeaf s = true) : s.length ≤ lim := by
  unfold isLeaf at h
  simp only [Bool.or_eq_true, decide_eq_true_eq] at h
  rcases h with (h | h) | h
  · rw [h]; decide +kernel
  · rw [h]; decide +kernel
  · unfold isName at h
    simp only [Bool.and_eq_true, decide_eq_true_eq] at h
    have := h.1.2
    show s.length ≤ 1000000
    omega
theorem left_of_ok : ∀ (t : Tm) {k : Nat}, t.ok = true → t.dp + 3 ≤ k → ∀ m : Nat, callF info defs k f_left_of [t.d, .int (m : Int)] = .ok (.int (leftN t.lv m))
  | .lf s, k, ho, hk, m => by
    obtain ⟨k, rfl⟩ : ∃ j, k = j + 1 := ⟨k - 1, by omega⟩
    have ho : isLeaf s = true := ho
    have h1 := is_leaf_ok (k := k) (by omega) s (leaf_len ho)
    refine (c_left_of _ _).trans ?_
    generalize callF info defs k = F at *
    rw [ho] at h1
    simp [b_left_of, Tm.d, h1]
    show _ = leftN 1 m
    by_cases h : 1 ≤ m
    · rw [leftN_le h]; rfl
    · rw [leftN_gt h]; omega
  | .ap a b, k, ho, hk, m => by
    obtain ⟨k, rfl⟩ : ∃ j, k = j + 1 := ⟨k - 1, by omega⟩
    have hk : max a.dp b.dp + 1 + 3 ≤ k + 1 := hk
    have ho : (a.ok && b.ok) = true := ho
    rw [Bool.and_eq_true] at ho
    have pa := a.lv_pos
    have pb := b.lv_pos
    show _ = R.ok (PyData.int (leftN (a.lv + b.lv) m))
    refine (c_left_of _ _).trans ?_
    by_cases hm : m < 2
    · generalize callF info defs k = F at *
      rw [leftN_gt (show ¬ a.lv + b.lv ≤ m by omega)]
      simp [b_left_of, Tm.d, show (m : Int) < 2 by omega]
    · have h1 := left_of_ok a (k := k) ho.1 (by omega) (m - 1)
      have e1 : ((m - 1 : Nat) : Int) = (m : Int) - 1 := by omega
      rw [e1] at h1
      by_cases ha : a.lv ≤ m - 1
      · have h2 := left_of_ok b (k := k) ho.2 (by omega) (m - a.lv)
        have e2 : ((m - a.lv : Nat) : Int) = (m : Int) - 1 - a.lv + 1 := by omega
        rw [e2] at h2
        rw [leftN_le ha, e1] at h1
        generalize callF info defs k = F at *
        have h3 : leftN b.lv (m - a.lv) = leftN (a.lv + b.lv) m := by
          by_cases hb : b.lv ≤ m - a.lv
          · rw [leftN_le hb, leftN_le (by omega)]; omega
          · rw [leftN_gt hb, leftN_gt (by omega)]
        rw [h3] at h2
        simp [b_left_of, Tm.d, show ¬ (m : Int) < 2 by omega, h1, h2, show ¬ (m : Int) - 1 - a.lv < 0 by omega]
      · rw [leftN_gt ha] at h1
        generalize callF info defs k = F at *
        rw [leftN_gt (show ¬ a.lv + b.lv ≤ m by omega)]
        simp [b_left_of, Tm.d, show ¬ (m : Int) < 2 by omega, h1]
theorem is_term_ok (t : Tm) {k : Nat} (ho : t.ok = true) (hk : t.dp + 4 ≤ k) : callF info defs k f_is_term [t.d] = .ok (.bool (decide (t.lv ≤ 200))) := by
  obtain ⟨k, rfl⟩ : ∃ j, k = j + 1 := ⟨k - 1, by omega⟩
  have h1 := left_of_ok t (k := k) ho (by omega) 200
  refine (c_is_term _ _).trans ?_
  generalize callF info defs k = F at *
  have h1 : F f_left_of [t.d, .int 200] = .ok (.int (leftN t.lv 200)) := h1
  simp [b_is_term, h1]
  by_cases h : t.lv ≤ 200
  · rw [leftN_le h]; simp [h]; omega
  · rw [leftN_gt h]; simp [h]
theorem checked_ok (t : Tm) {k : Nat} (ho : t.ok = true) (hl : t.lv ≤ 200) (hk : t.dp + 5 ≤ k) : callF info defs k f_checked [t.d] = .ok t.d := by
  obtain ⟨k, rfl⟩ : ∃ j, k = j + 1 := ⟨k - 1, by omega⟩
  have h1 := is_term_ok t (k := k) ho (by omega)
  refine (c_checked _ _).trans ?_
  generalize callF info defs k = F at *
  simp [b_checked, h1, hl]
theorem looked_ok (t : Tm) {k : Nat} (ho : t.ok = true) (hl : t.lv ≤ 200) (hk : t.dp + 5 ≤ k) : callF info defs k f_looked [t.d] = .ok t.d := by
  obtain ⟨k, rfl⟩ : ∃ j, k = j + 1 := ⟨k - 1, by omega⟩
  have h1 := is_term_ok t (k := k) ho (by omega)
  refine (c_looked _ _).trans ?_
  generalize callF info defs k = F at *
  simp [b_looked, h1, hl]
end K30

namespace K30
open PySem CH
theorem is_within_ok {k : Nat} (h : 1 ≤ k) (n a b : Int) : callF info defs k f_is_within [.int n, .int a, .int b] = .ok (.bool (decide (a ≤ n) && decide (n ≤ b))) := by
  obtain ⟨k, rfl⟩ : ∃ j, k = j + 1 := ⟨k - 1, by omega⟩
  refine (c_is_within _ _).trans ?_
  generalize callF info defs k = F at *
  simp [b_is_within, tyS]
  split <;> simp [*]
theorem deed_ok {k : Nat} (h : 1 ≤ k) : ∀ t : Tm, callF info defs k f_deed_of [t.d] = .ok (.str (deedS t.deed)) := by
  intro t
  obtain ⟨k, rfl⟩ : ∃ j, k = j + 1 := ⟨k - 1, by omega⟩
  refine (c_deed_of _ _).trans ?_
  generalize callF info defs k = F at *
  match t with
  | .lf s => simp [b_deed_of, Tm.d, Tm.deed, deedS]
  | .ap (.lf s) y => simp [b_deed_of, Tm.d, Tm.deed, deedS]
  | .ap (.ap (.lf q) x) y =>
    by_cases e : q = "K"
    · simp [b_deed_of, Tm.d, Tm.deed, deedS, e]
    · simp [b_deed_of, Tm.d, Tm.deed, deedS, e]
  | .ap (.ap (.ap (.lf q) x) y) z =>
    by_cases e : q = "S"
    · simp [b_deed_of, Tm.d, Tm.deed, deedS, e]
    · simp [b_deed_of, Tm.d, Tm.deed, deedS, e]
  | .ap (.ap (.ap (.ap p q) x) y) z => simp [b_deed_of, Tm.d, Tm.deed, deedS]
theorem done_ok {k : Nat} (h : 2 ≤ k) (t : Tm) (ht : t.deed ≠ 0) : callF info defs k f_done [t.d] = .ok t.done.d := by
  obtain ⟨k, rfl⟩ : ∃ j, k = j + 1 := ⟨k - 1, by omega⟩
  have h1 := deed_ok (k := k) (by omega) t
  refine (c_done _ _).trans ?_
  generalize callF info defs k = F at *
  match t, ht, h1 with
  | .lf s, ht, h1 => exact absurd rfl ht
  | .ap (.lf s) y, ht, h1 => exact absurd rfl ht
  | .ap (.ap (.lf q) x) y, ht, h1 =>
    by_cases e : q = "K"
    · simp [Tm.deed, e, deedS, Tm.d] at h1
      simp [b_done, Tm.d, Tm.done, h1, e]
    · exact absurd (by simp [Tm.deed, e]) ht
  | .ap (.ap (.ap (.lf q) x) y) z, ht, h1 =>
    by_cases e : q = "S"
    · simp [Tm.deed, e, deedS, Tm.d] at h1
      simp [b_done, Tm.d, Tm.done, h1, e, show ¬ ("S" : Str) = "K" by decide +kernel]
    · exact absurd (by simp [Tm.deed, e]) ht
  | .ap (.ap (.ap (.ap p q) x) y) z, ht, h1 => exact absurd rfl ht
theorem ways_len : ∀ (t : Tm) (w : List Nat), w ∈ t.ways → w.length ≤ t.dp
  | .lf _, w, h => by cases h
  | .ap a b, w, h => by
    show w.length ≤ max a.dp b.dp + 1
    simp only [Tm.ways, List.mem_append, List.mem_map] at h
    rcases h with h | ⟨v, hv, rfl⟩ | ⟨v, hv, rfl⟩
    · split at h
      · rw [List.mem_singleton.mp h]; exact Nat.zero_le _
      · cases h
    · have := ways_len a v hv
      rw [List.length_cons]; omega
    · have := ways_len b v hv
      rw [List.length_cons]; omega
theorem ways_num : ∀ (t : Tm), t.ways.length < t.lv
  | .lf _ => Nat.lt_succ_self _
  | .ap a b => by
    have h1 := ways_num a
    have h2 := ways_num b
    have h3 : (if (Tm.ap a b).deed ≠ 0 then [[]] else ([] : List (List Nat))).length ≤ 1 := by split <;> simp
    show (Tm.ways (.ap a b)).length < a.lv + b.lv
    simp only [Tm.ways, List.length_append, List.length_map]
    omega
theorem ways_of_ok : ∀ (t : Tm) {k : Nat}, t.dp + 2 ≤ k → t.lv ≤ 400 → callF info defs k f_ways_of [t.d] = .ok (wsD t.ways)
  | .lf s, k, hk, hl => by
    obtain ⟨k, rfl⟩ : ∃ j, k = j + 1 := ⟨k - 1, by omega⟩
    refine (c_ways_of _ _).trans ?_
    generalize callF info defs k = F at *
    simp [b_ways_of, Tm.d, Tm.ways, wsD]
  | .ap a b, k, hk, hl => by
    obtain ⟨k, rfl⟩ : ∃ j, k = j + 1 := ⟨k - 1, by omega⟩
    have hk : max a.dp b.dp + 1 + 2 ≤ k + 1 := hk
    have hl : a.lv + b.lv ≤ 400 := hl
    have pa := a.lv_pos
    have pb := b.lv_pos
    have h1 := ways_of_ok a (k := k) (by omega) (by omega)
    have h2 := ways_of_ok b (k := k) (by omega) (by omega)
    have h3 := deed_ok (k := k) (by omega) (.ap a b)
    have la := ways_num a
    have lb := ways_num b
    have cmp : ∀ (x : Nat) (t : Tm) (bd : D → Option (List Sl)) (test : M Bool) (elt : M D), t.lv ≤ 400 → (∀ w, w.length ≤ 400 → ∃ ρ, bd (wD w) = some ρ ∧ test ρ = .ok true ∧ elt ρ = .ok (wD (x :: w))) →
        compL bd test elt (t.ways.map wD) = .ok ((t.ways.map (x :: ·)).map wD) := fun x t bd test elt hlt h => by
      rw [compL_map wD (fun _ => true) (fun w => wD (x :: w)) fun w hw => ?_]
      · rw [List.filter_eq_self.mpr fun _ _ => rfl, List.map_map]; rfl
      · have := ways_len t w hw
        have := t.dp_lv
        obtain ⟨ρ, e1, e2, e3⟩ := h w (by omega)
        exact ⟨ρ, e1, e2, fun _ => e3⟩
    refine (c_ways_of _ _).trans ?_
    generalize callF info defs k = F at *
    have h3 : F f_deed_of [.tuple [a.d, b.d]] = _ := h3
    by_cases hd : (Tm.ap a b).deed = 0
    · simp [b_ways_of, Tm.d, h1, h2, h3, tru_deed, hd, wsD]
      rw [cmp 0 a _ _ _ (by omega) fun w hw => ⟨_, rfl, by simp, by simp [wD, show 1 + w.length ≤ lim by show _ ≤ 1000000; omega]⟩]
      simp [h2, wsD, show a.ways.length ≤ lim by show _ ≤ 1000000; omega]
      rw [cmp 1 b _ _ _ (by omega) fun w hw => ⟨_, rfl, by simp, by simp [wD, show 1 + w.length ≤ lim by show _ ≤ 1000000; omega]⟩]
      simp [Tm.ways, hd, show a.ways.length + b.ways.length ≤ lim by show _ ≤ 1000000; omega]
    · simp [b_ways_of, Tm.d, h1, h2, h3, tru_deed, hd, wsD]
      rw [cmp 0 a _ _ _ (by omega) fun w hw => ⟨_, rfl, by simp, by simp [wD, show 1 + w.length ≤ lim by show _ ≤ 1000000; omega]⟩]
      simp [h2, wsD, show 1 + a.ways.length ≤ lim by show _ ≤ 1000000; omega]
      rw [cmp 1 b _ _ _ (by omega) fun w hw => ⟨_, rfl, by simp, by simp [wD, show 1 + w.length ≤ lim by show _ ≤ 1000000; omega]⟩]
      simp [Tm.ways, hd, wD, show a.ways.length + 1 + b.ways.length ≤ lim by show _ ≤ 1000000; omega]
end K30

namespace K30
open PySem CH
theorem part_at_ok {k : Nat} (h : 2 ≤ k) (t : Tm) (w : List Nat) : callF info defs k f_part_at [t.d, wD w] = .ok (match t.part w with | some u => u.d | none => .none) := by
  obtain ⟨k, rfl⟩ : ∃ j, k = j + 1 := ⟨k - 1, by omega⟩
  have hw : ∀ n : Nat, callF info defs k f_is_within [.int (n : Int), .int 0, .int 1] = .ok (.bool (decide (n ≤ 1))) := fun n => by
    rw [is_within_ok (by omega)]
    by_cases e : n ≤ 1
    · simp [e]; omega
    · simp [e]; omega
  refine (c_part_at _ _).trans ?_
  generalize callF info defs k = F at *
  refine gv_eq (gv_out ?_)
  simp [b_part_at, wD]
  refine wp_for (fun n ρ => ∃ (u : Tm) (s : Sl), ρ = [.dat u.d, .dat (wD w), s] ∧ t.part w = u.part (w.drop n)) ⟨t, _, rfl, rfl⟩ ?_ ?_
  · rintro n d ρ hd ⟨u, s, rfl, e⟩
    obtain ⟨x, hx, rfl⟩ : ∃ x, w[n]? = some x ∧ d = .int ((x : Nat) : Int) := by
      rw [nD, List.getElem?_map] at hd
      cases q : w[n]? with
      | none => rw [q] at hd; cases hd
      | some x => rw [q] at hd; cases hd; exact ⟨x, rfl, rfl⟩
    have hdr : w.drop n = x :: w.drop (n + 1) := by
      have hl := (List.getElem?_eq_some_iff.mp hx).1
      rw [List.drop_eq_getElem_cons hl]
      rw [List.getElem?_eq_getElem hl] at hx
      exact congrArg (· :: w.drop (n + 1)) (Option.some.inj hx)
    rw [hdr] at e
    refine ⟨_, rfl, ?_⟩
    match u, e with
    | .lf q, e =>
      have e : t.part w = none := by rw [e]; simp [Tm.part]
      simp [l_part_at_1, r_part_at_1, Tm.d, e]
    | .ap a b, e =>
      match x, e with
      | 0, e =>
        have z := hw 0
        simp at z
        simp [l_part_at_1, Tm.d, z]
        exact ⟨a, rfl, e⟩
      | 1, e =>
        have z := hw 1
        simp at z
        simp [l_part_at_1, Tm.d, z]
        exact ⟨b, rfl, e⟩
      | x + 2, e =>
        have e : t.part w = none := by rw [e]; simp [Tm.part]
        have z := hw (x + 2)
        simp at z
        simp [l_part_at_1, r_part_at_1, Tm.d, z, e]
  · rintro ρ ⟨u, s, rfl, e⟩
    simp at e
    simp [Tm.part] at e
    simp [r_part_at_1, e]
theorem with_part_ok : ∀ (w : List Nat) {k : Nat} (t u : Tm) (o : D), t.part w = some u → w.length + 1 ≤ k → w.length ≤ 1000 → ∀ o : Tm, callF info defs k f_with_part [t.d, wD w, o.d] = .ok (t.put w o).d
  | [], k, t, u, _, h, hk, hl, o => by
    obtain ⟨k, rfl⟩ : ∃ j, k = j + 1 := ⟨k - 1, by omega⟩
    refine (c_with_part _ _).trans ?_
    generalize callF info defs k = F at *
    simp [b_with_part, wD, eq_tnil, Tm.put]
  | x :: w, k, .lf s, u, _, h, hk, hl, o => by simp [Tm.part] at h
  | x :: w, k, .ap a b, u, od, h, hk, hl, o => by
    obtain ⟨k, rfl⟩ : ∃ j, k = j + 1 := ⟨k - 1, by omega⟩
    have hk : w.length + 1 + 1 ≤ k + 1 := hk
    have hl : w.length + 1 ≤ 1000 := hl
    match x, h with
    | 0, h =>
      have ih := with_part_ok w (k := k) a u od h (by omega) (by omega) o
      refine (c_with_part _ _).trans ?_
      generalize callF info defs k = F at *
      simp only [wD] at ih
      simp [b_with_part, wD, eq_tnil, Tm.put, Tm.d, cut_tail, ih]
    | 1, h =>
      have ih := with_part_ok w (k := k) b u od h (by omega) (by omega) o
      refine (c_with_part _ _).trans ?_
      generalize callF info defs k = F at *
      simp only [wD] at ih
      simp [b_with_part, wD, eq_tnil, Tm.put, Tm.d, cut_tail, ih]
    | x + 2, h => simp [Tm.part] at h
theorem look_way_ok {k : Nat} (h : 3 ≤ k) (t u : Tm) (w : List Nat) (hp : t.part w = some u) (hd : u.deed ≠ 0) : callF info defs k f_look_way [t.d, wD w] = .ok u.d := by
  obtain ⟨k, rfl⟩ : ∃ j, k = j + 1 := ⟨k - 1, by omega⟩
  have h1 := part_at_ok (k := k) (by omega) t w
  have h2 := deed_ok (k := k) (by omega) u
  rw [hp] at h1
  have hn : isN u.d = false := by cases u <;> rfl
  refine (c_look_way _ _).trans ?_
  generalize callF info defs k = F at *
  simp [b_look_way, h1, h2, tru_deed, hd, hn]
theorem step_to_ok {k : Nat} (t u : Tm) (w : List Nat) (hp : t.part w = some u) (hd : u.deed ≠ 0) (hk : w.length + 4 ≤ k) (hl : w.length ≤ 1000) : callF info defs k f_step_to [t.d, wD w] = .ok (t.step w).d := by
  obtain ⟨k, rfl⟩ : ∃ j, k = j + 1 := ⟨k - 1, by omega⟩
  have h1 := look_way_ok (k := k) (by omega) t u w hp hd
  have h2 := done_ok (k := k) (by omega) u hd
  have h3 := with_part_ok w (k := k) t u .none hp (by omega) hl u.done
  refine (c_step_to _ _).trans ?_
  generalize callF info defs k = F at *
  simp [b_step_to, h1, h2, h3, Tm.step, hp]
end K30

namespace K30
open PySem CH
theorem part_len : ∀ (w : List Nat) (t u : Tm), t.part w = some u → w.length ≤ t.dp
  | [], t, u, h => Nat.zero_le _
  | x :: w, .lf s, u, h => by simp [Tm.part] at h
  | 0 :: w, .ap a b, u, h => by
    have := part_len w a u h
    simp [Tm.dp]; omega
  | 1 :: w, .ap a b, u, h => by
    have := part_len w b u h
    simp [Tm.dp]; omega
  | (x + 2) :: w, .ap a b, u, h => by simp [Tm.part] at h
theorem led_ok {k : Nat} (t e : Tm) (row : List (List Nat)) (ho : t.ok = true) (hl : t.lv ≤ 200) (hw : t.walk row = some e) (hk : t.whi row + 7 ≤ k) : callF info defs k f_led [t.d, wsD row] = .ok e.d := by
  obtain ⟨k, rfl⟩ : ∃ j, k = j + 1 := ⟨k - 1, by omega⟩
  have dpw : t.dp ≤ t.whi row := by cases row <;> simp [Tm.whi]; omega
  have hc := checked_ok t (k := k) ho hl (by omega)
  have hs : ∀ (t u : Tm) (w : List Nat), t.ok = true → t.lv ≤ 200 → t.part w = some u → u.deed ≠ 0 → t.dp + 4 ≤ k → callF info defs k f_step_to [t.d, wD w] = .ok (t.step w).d := fun t u w h1 h2 h3 h4 h5 => by
    have := part_len w t u h3
    have := t.dp_lv
    exact step_to_ok t u w h3 h4 (by omega) (by omega)
  have hlk : ∀ t : Tm, t.ok = true → t.lv ≤ 200 → t.dp + 5 ≤ k → callF info defs k f_looked [t.d] = .ok t.d := fun t h1 h2 h3 => looked_ok t h1 h2 h3
  refine (c_led _ _).trans ?_
  generalize callF info defs k = F at *
  refine gv_eq (gv_out ?_)
  simp [b_led, hc, wsD]
  refine wp_for (fun n ρ => ∃ (u : Tm) (s : Sl), ρ = [.dat u.d, .dat (wsD row), s] ∧ u.ok = true ∧ u.lv ≤ 200 ∧ u.walk (row.drop n) = some e ∧ u.whi (row.drop n) ≤ t.whi row) ⟨t, _, rfl, ho, hl, hw, Nat.le_refl _⟩ ?_ ?_
  · rintro n d ρ hd ⟨u, s, rfl, h1, h2, h3, h4⟩
    obtain ⟨w, hx, rfl⟩ : ∃ w, row[n]? = some w ∧ d = wD w := by
      rw [List.getElem?_map] at hd
      cases q : row[n]? with
      | none => rw [q] at hd; cases hd
      | some x => rw [q] at hd; cases hd; exact ⟨x, rfl, rfl⟩
    have hdr : row.drop n = w :: row.drop (n + 1) := by
      have hl := (List.getElem?_eq_some_iff.mp hx).1
      rw [List.drop_eq_getElem_cons hl]
      rw [List.getElem?_eq_getElem hl] at hx
      exact congrArg (· :: row.drop (n + 1)) (Option.some.inj hx)
    rw [hdr] at h3 h4
    simp only [Tm.walk] at h3
    simp only [Tm.whi] at h4
    cases hp : u.part w with
    | none => rw [hp] at h3; cases h3
    | some v =>
      rw [hp] at h3
      simp only at h3
      split at h3
      · rename_i hc2
        have ho2 := u.step_okk w h1
        have hdp : (u.step w).dp ≤ (u.step w).whi (row.drop (n + 1)) := by cases row.drop (n + 1) <;> simp [Tm.whi]; omega
        refine ⟨_, rfl, ?_⟩
        simp [l_led_1, hs u v w h1 h2 hp hc2.1 (by omega), hlk (u.step w) ho2 hc2.2 (by omega)]
        exact ⟨_, rfl, ho2, hc2.2, h3, by omega⟩
      · cases h3
  · rintro ρ ⟨u, s, rfl, h1, h2, h3, h4⟩
    simp [Tm.walk] at h3
    simp [r_led_1, h3]
theorem played_ok {k : Nat} (t : Tm) (most : Nat) (ho : t.ok = true) (hl : t.lv ≤ 200) (hm : most ≤ 400) (hk : t.hi most + 7 ≤ k) : callF info defs k f_played [t.d, .int (most : Int)] = .ok (.tuple [(t.play most).1.d, wsD (t.play most).2]) := by
  obtain ⟨k, rfl⟩ : ∃ j, k = j + 1 := ⟨k - 1, by omega⟩
  have dpw := t.hi_dp most
  have hc := checked_ok t (k := k) ho hl (by omega)
  have hw : callF info defs k f_is_within [.int (most : Int), .int 0, .int 400] = .ok (.bool true) := by
    rw [is_within_ok (by omega)]
    simp; omega
  have hs : ∀ (t u : Tm) (w : List Nat), t.ok = true → t.lv ≤ 200 → t.part w = some u → u.deed ≠ 0 → t.dp + 4 ≤ k → callF info defs k f_step_to [t.d, wD w] = .ok (t.step w).d := fun t u w h1 h2 h3 h4 h5 => by
    have := part_len w t u h3
    have := t.dp_lv
    exact step_to_ok t u w h3 h4 (by omega) (by omega)
  have hwo : ∀ t : Tm, t.lv ≤ 200 → t.dp + 2 ≤ k → callF info defs k f_ways_of [t.d] = .ok (wsD t.ways) := fun t h1 h2 => ways_of_ok t h2 (by omega)
  have hit : ∀ t : Tm, t.ok = true → t.dp + 4 ≤ k → callF info defs k f_is_term [t.d] = .ok (.bool (decide (t.lv ≤ 200))) := fun t h1 h2 => is_term_ok t h1 h2
  refine (c_played _ _).trans ?_
  generalize callF info defs k = F at *
  refine gv_eq (gv_out ?_)
  simp [b_played, hc, hw]
  refine wp_while (fun m ρ => ∃ (u : Tm) (r : List (List Nat)) (s : Sl), ρ = [.dat u.d, .dat (.int (most : Int)), .own (r.map wD), s] ∧ r.length + m = most ∧ u.ok = true ∧ u.lv ≤ 200 ∧ u.hi m ≤ t.hi most ∧ (t.play most).1 = (u.play m).1 ∧ (t.play most).2 = r ++ (u.play m).2) most (by show most < 1000000; omega)
    ⟨t, [], _, rfl, by simp, ho, hl, Nat.le_refl _, rfl, by simp⟩ ?_
  rintro m ρ ⟨u, r, s, rfl, h1, h2, h3, h4, h5, h6⟩
  cases m with
  | zero =>
    refine .inl ⟨by simp; omega, ?_⟩
    simp [Tm.play] at h5 h6
    simp [r_played_1, h5, h6, wsD]
  | succ m =>
    have hdu := u.hi_dp (m + 1)
    refine .inr ⟨by simp; omega, ?_⟩
    have hw1 := hwo u h3 (by omega)
    cases e : u.ways with
    | nil =>
      rw [e] at hw1
      simp [Tm.play, e] at h5 h6
      simp [l_played_1, hw1, wsD, h5, h6]
    | cons w ws =>
      obtain ⟨v, hp, hd⟩ := u.ways_part w (by rw [e]; exact List.mem_cons_self ..)
      rw [e] at hw1
      have hs1 := hs u v w h2 h3 hp hd (by omega)
      have ho2 := u.step_okk w h2
      simp only [Tm.hi, e] at h4
      simp only [Tm.play, e] at h5 h6
      by_cases hlv : (u.step w).lv ≤ 200
      · rw [if_pos hlv] at h4 h5 h6
        have hdv := (u.step w).hi_dp m
        have hi1 := hit (u.step w) ho2 (by omega)
        simp [l_played_1, hw1, wsD, hs1, hi1, hlv, show r.length < lim by show _ < 1000000; omega]
        refine ⟨m, by omega, u.step w, r ++ [w], ⟨rfl, by simp⟩, by simp; omega, ho2, hlv, by omega, h5, by simp [h6]⟩
      · rw [if_neg hlv] at h4 h5 h6
        have hi1 := hit (u.step w) ho2 (by omega)
        simp [l_played_1, hw1, wsD, hs1, hi1, hlv]
        simp at h5 h6
        simp [h5, h6]
end K30

namespace K30
open PySem CH
def peel : Tm → Nat × Tm
  | .ap (.lf s) b => if s = "f" then ((peel b).1 + 1, (peel b).2) else (0, .ap (.lf s) b)
  | t => (0, t)
def countT (t : Tm) (most : Nat) : Option Nat :=
  let e := peel ((Tm.ap (.ap t (.lf "f")) (.lf "x")).play most).1
  if e.2 = .lf "x" then some e.1 else none
def optD : Option Nat → D
  | some n => .int (n : Int)
  | none => .none
def SAMEt : Tm := .ap (.ap (.lf "S") (.lf "K")) (.lf "K")
def BEHINDt : Tm := .ap (.ap (.lf "S") (.ap (.lf "K") (.lf "S"))) (.lf "K")
def MOREt : Tm := .ap (.lf "S") BEHINDt
def PLUSt : Tm := .ap (.ap (.lf "S") SAMEt) (.ap (.lf "K") MOREt)
def numT : Nat → Tm
  | 0 => .ap (.lf "K") SAMEt
  | n + 1 => .ap MOREt (numT n)
end K30

namespace K30
open PySem CH
def inNum (d : D) (a b : Int) : Bool := match d with
  | .int n => decide (a ≤ n) && decide (n ≤ b)
  | _ => false
theorem is_within_d {k : Nat} (h : 1 ≤ k) (d : D) (a b : Int) : callF info defs k f_is_within [d, .int a, .int b] = .ok (.bool (inNum d a b)) := by
  obtain ⟨k, rfl⟩ : ∃ j, k = j + 1 := ⟨k - 1, by omega⟩
  refine (c_is_within _ _).trans ?_
  generalize callF info defs k = F at *
  cases d with
  | int n =>
    simp [b_is_within, tyS, inNum]
    split <;> simp [*]
  | _ => simp [b_is_within, tyS, inNum]
end K30

namespace K30
open PySem CH
theorem played_bad {k : Nat} (t : Tm) (d : D) (ho : t.ok = true) (hl : t.lv ≤ 200) (hk : t.dp + 6 ≤ k) (hd : inNum d 0 400 = false) : callF info defs k f_played [t.d, d] = .exc x_BadCount none := by
  obtain ⟨k, rfl⟩ : ∃ j, k = j + 1 := ⟨k - 1, by omega⟩
  have hc := checked_ok t (k := k) ho hl (by omega)
  have hw := is_within_d (k := k) (by omega) d 0 400
  rw [hd] at hw
  refine (c_played _ _).trans ?_
  generalize callF info defs k = F at *
  simp [b_played, hc, hw]
end K30

namespace K30
open PySem CH
theorem below_ok {k : Nat} (h : 1 ≤ k) (l : List (List Nat)) (p : List Nat) : callF info defs k f_below [wsD l, wD p] = .ok (wsD (belowW p l)) := by
  obtain ⟨k, rfl⟩ : ∃ j, k = j + 1 := ⟨k - 1, by omega⟩
  refine (c_below _ _).trans ?_
  generalize callF info defs k = F at *
  simp [b_below, wsD]
  rw [compL_map wD (fun w => decide (w.take p.length = p)) (fun w => wD (w.drop p.length))]
  · simp [belowW, List.map_map, Function.comp_def]
  · intro w hw
    have e1 : cutD (nD w) none (some (p.length : Int)) = nD (w.take p.length) := by rw [cut_take]; simp [nD]
    have e2 : cutD (nD w) (some (p.length : Int)) none = nD (w.drop p.length) := by rw [cut_drop]; simp [nD]
    have e3 : dEq (.tuple (nD (w.take p.length))) (.tuple (nD p)) = some (.bool (decide (w.take p.length = p))) := by
      have := eqv_wD (w.take p.length) p
      rw [dEq_of _ _ (by have := wD_depth (w.take p.length); simp only [wD] at this; omega)]
      simp only [wD] at this
      rw [this]
    refine ⟨_, rfl, ?_, ?_⟩
    · simp [wD, e1, e3]
    · intro _
      simp [wD, e2]
theorem not_K_ap (a b : Tm) : dEq (Tm.ap a b).d (.str "K") = some (.bool false) := by simp [Tm.d]
theorem all_done_ok : ∀ (t : Tm) {k : Nat} (l : List (List Nat)), t.val (isIn l) → t.dp + 2 ≤ k → callF info defs k f_all_done [t.d, wsD l] = .ok (t.dev (isIn l)).d := by
  intro t
  induction t using Tm.val_rec with
  | hl s =>
    intro k l h hk
    obtain ⟨k, rfl⟩ : ∃ j, k = j + 1 := ⟨k - 1, by omega⟩
    refine (c_all_done _ _).trans ?_
    generalize callF info defs k = F at *
    simp [b_all_done, Tm.d, Tm.dev_lf]
  | ha a b iha ihb ih1 ih2 =>
    intro k l h hk
    obtain ⟨k, rfl⟩ : ∃ j, k = j + 1 := ⟨k - 1, by omega⟩
    have hk : max a.dp b.dp + 1 + 2 ≤ k + 1 := hk
    have bl : ∀ p : List Nat, callF info defs k f_below [wsD l, wD p] = .ok (wsD (belowW p l)) := fun p => below_ok (by omega) l p
    have dc : ∀ (u : Tm) (p : List Nat), u.dev (isIn (belowW p l)) = u.dev fun w => isIn l (p ++ w) := fun u p => u.dev_congr fun w => isIn_below p l w
    have hb := ihb (k := k) (belowW [1] l) (Tm.val_below (t := .ap a b) (p := [1]) (by simp [Tm.part]) h) (by omega)
    rw [dc] at hb
    have nin : dNotIn (.tuple []) (wsD l) = some (.bool (!isIn l [])) := dNotIn_wD [] l
    have bl0 := bl [0]
    have bl1 := bl [1]
    have bl01 := bl [0, 1]
    have bl001 := bl [0, 0, 1]
    simp [wD] at bl0 bl1 bl01 bl001
    refine (c_all_done _ _).trans ?_
    by_cases hl : l = []
    · subst hl
      have e0 : (Tm.ap a b).dev (isIn []) = .ap a b := Tm.dev_none _ fun w => rfl
      rw [e0]
      generalize callF info defs k = F at *
      simp [b_all_done, Tm.d, wsD]
    · have hle : l.isEmpty = false := by cases l with | nil => exact absurd rfl hl | cons _ _ => rfl
      have tl : dTru (wsD l) = some true := by simp [wsD, hl]
      cases e : isIn l [] with
      | false =>
        have ha := iha (k := k) (belowW [0] l) (Tm.val_below (t := .ap a b) (p := [0]) (by simp [Tm.part]) h) (by omega)
        rw [dc] at ha
        rw [Tm.dev_no e]
        generalize callF info defs k = F at *
        simp only [List.cons_append, List.nil_append] at ha hb
        simp [b_all_done, Tm.d, tl, nin, e, bl0, bl1, ha, hb]
      | true =>
        rcases h.cases e with ⟨x, b', q⟩ | ⟨x, y, b', q⟩
        · cases q
          have hx := ih1 _ _ rfl (k := k) (belowW [0, 1] l) (Tm.val_below (t := .ap (.ap (.lf "K") x) b) (p := [0, 1]) (by simp [Tm.part]) h) (by simp [Tm.dp] at hk; omega)
          rw [dc] at hx
          rw [Tm.dev_K e]
          generalize callF info defs k = F at *
          simp only [List.cons_append, List.nil_append] at hx
          simp [b_all_done, Tm.d, tl, nin, e, bl01, hx]
        · cases q
          have hx := (ih2 _ _ _ rfl).1 (k := k) (belowW [0, 0, 1] l) (Tm.val_below (t := .ap (.ap (.ap (.lf "S") x) y) b) (p := [0, 0, 1]) (by simp [Tm.part]) h) (by simp [Tm.dp] at hk; omega)
          have hy := (ih2 _ _ _ rfl).2 (k := k) (belowW [0, 1] l) (Tm.val_below (t := .ap (.ap (.ap (.lf "S") x) y) b) (p := [0, 1]) (by simp [Tm.part]) h) (by simp [Tm.dp] at hk; omega)
          rw [dc] at hx hy
          rw [Tm.dev_S e]
          generalize callF info defs k = F at *
          simp only [List.cons_append, List.nil_append] at hx hy hb
          simp [b_all_done, Tm.d, tl, nin, e, bl01, bl001, bl1, hx, hy, hb]
theorem moved_ok {k : Nat} (h : 1 ≤ k) (p : List Nat) (l : List (List Nat)) (hl : ∀ w ∈ l, p.length + w.length ≤ lim) : callF info defs k f_moved [wD p, wsD l] = .ok (wsD (l.map (p ++ ·))) := by
  obtain ⟨k, rfl⟩ : ∃ j, k = j + 1 := ⟨k - 1, by omega⟩
  refine (c_moved _ _).trans ?_
  generalize callF info defs k = F at *
  simp [b_moved, wsD]
  rw [compL_map wD (fun _ => true) (fun w => wD (p ++ w))]
  · rw [List.filter_eq_self.mpr fun _ _ => rfl]; simp [List.map_map, Function.comp_def]
  · intro w hw
    refine ⟨_, rfl, by simp, ?_⟩
    intro _
    have := hl w hw
    simp [wD, this, nD_app]
end K30

namespace K30
open PySem CH
/-- what is looked at is too big -/
theorem looked_big (t : Tm) {k : Nat} (ho : t.ok = true) (hl : ¬ t.lv ≤ 200) (hk : t.dp + 5 ≤ k) : callF info defs k f_looked [t.d] = .exc x_TooBig none := by
  obtain ⟨k, rfl⟩ : ∃ j, k = j + 1 := ⟨k - 1, by omega⟩
  have h1 := is_term_ok t (k := k) ho (by omega)
  refine (c_looked _ _).trans ?_
  generalize callF info defs k = F at *
  simp [b_looked, h1, hl]
theorem look_way_no {k : Nat} (h : 3 ≤ k) (t : Tm) (w : List Nat) (hr : ¬ t.red w) : callF info defs k f_look_way [t.d, wD w] = .exc x_BadWay (some (wD w)) := by
  obtain ⟨k, rfl⟩ : ∃ j, k = j + 1 := ⟨k - 1, by omega⟩
  have h1 := part_at_ok (k := k) (by omega) t w
  refine (c_look_way _ _).trans ?_
  cases hp : t.part w with
  | none =>
    rw [hp] at h1
    generalize callF info defs k = F at *
    simp [b_look_way, h1]
  | some u =>
    rw [hp] at h1
    have hd : u.deed = 0 := Classical.byContradiction fun z => hr ⟨u, hp, z⟩
    have h2 := deed_ok (k := k) (by omega) u
    have hn : isN u.d = false := by cases u <;> rfl
    generalize callF info defs k = F at *
    simp [b_look_way, h1, h2, tru_deed, hd, hn]
theorem enum_at {l : List D} {i : Nat} {d : D} (h : (enumFrom 0 l)[i]? = some d) : ∃ e, l[i]? = some e ∧ d = .tuple [.int (i : Int), e] := by
  obtain ⟨e, h1, h2⟩ := enum_get h
  exact ⟨e, h1, by rw [h2, Nat.zero_add]⟩
/-- all ways of steps, each once; then perhaps one that is not -/
theorem look_ways_gen {k : Nat} (h : 4 ≤ k) (t : Tm) (l : List (List Nat)) (hv : ∀ w ∈ l, t.red w) (hn : l.Nodup) (r : List D)
    (hr : r = [] ∨ ∃ d r', r = d :: r' ∧ (callF info defs (k - 1) f_look_way [t.d, d] = .exc x_BadWay (some d) ∨ ∃ w, d = wD w ∧ w ∈ l)) :
    callF info defs k f_look_ways [t.d, .list (l.map wD ++ r)] = (match r with | [] => .ok .none | d :: _ => .exc x_BadWay (some d)) := by
  obtain ⟨k, rfl⟩ : ∃ j, k = j + 1 := ⟨k - 1, by omega⟩
  have hlw : ∀ w, t.red w → ∃ u : Tm, callF info defs k f_look_way [t.d, wD w] = .ok u.d := fun w ⟨u, h1, h2⟩ => ⟨u, look_way_ok (by omega) t u w h1 h2⟩
  refine (c_look_ways _ _).trans ?_
  rw [Nat.add_sub_cancel] at hr
  generalize callF info defs k = F at *
  have key : wp ⟨fun _ => r = [], fun _ => False, fun _ => False, fun _ => False, fun c f _ => ∃ d r', r = d :: r' ∧ c = x_BadWay ∧ f = some d⟩ (exb info F b_look_ways ([.dat t.d, .dat (.list (l.map wD ++ r))] ++ List.replicate 2 Sl.no)) := by
    simp [b_look_ways]
    refine wp_forH (fun i ρ => ∃ s1 s2, ρ = [.dat t.d, .dat (.list (l.map wD ++ r)), s1, s2] ∧ i ≤ l.length) ⟨_, _, rfl, Nat.zero_le _⟩ ?_ ?_
    · rintro J hJ i d ρ hd ⟨s1, s2, rfl, hi⟩
      obtain ⟨e, he, rfl⟩ := enum_at hd
      refine ⟨_, rfl, ?_⟩
      have ct : cutD (l.map wD ++ r) none (some (i : Int)) = (l.map wD ++ r).take i := cut_take _ _
      by_cases hil : i < l.length
      · rw [List.getElem?_append_left (by simpa using hil)] at he
        obtain ⟨w, hw, rfl⟩ := map_at he
        have hwl : w ∈ l := List.mem_of_getElem? hw
        obtain ⟨u, hu⟩ := hlw w (hv w hwl)
        have etk : (l.map wD ++ r).take i = (l.map wD).take i := List.take_append_of_le_length (by simp; omega)
        have hni : dIn (wD w) (.list ((l.map wD).take i)) = some (.bool false) := by
          rw [← List.map_take, dIn_wD, isIn_eq (b := false) (by simp only [Bool.false_eq_true, iff_false]; exact nodup_take hn hw)]
        rw [etk] at ct
        simp [l_look_ways_1, hu, ct, hni]
        exact hJ _ _ ⟨_, _, rfl, by omega⟩
      · have hie : i = l.length := by omega
        subst hie
        rw [List.getElem?_append_right (by simp)] at he
        simp at he
        rcases hr with rfl | ⟨d, r', rfl, hc⟩
        · cases he
        · simp at he
          subst he
          rcases hc with hc | ⟨w, rfl, hw⟩
          · simp [l_look_ways_1, hc]
          · obtain ⟨u, hu⟩ := hlw w (hv w hw)
            have etk : (l.map wD ++ wD w :: r').take l.length = l.map wD := by
              rw [List.take_append_of_le_length (by simp), List.take_of_length_le (by simp)]
            rw [etk] at ct
            simp [l_look_ways_1, hu, ct, dIn_wD, isIn_iff.mpr hw]
    · rintro ρ ⟨s1, s2, rfl, hi⟩
      rw [enum_len] at hi
      simp at hi
      show r = []
      exact List.eq_nil_of_length_eq_zero (by omega)
  show O.out _ = _
  cases eo : exb info F b_look_ways ([.dat t.d, .dat (.list (l.map wD ++ r))] ++ List.replicate 2 Sl.no) with
  | nx ρ =>
    rw [eo] at key
    have key : r = [] := key
    subst key
    have : exb info F b_look_ways (List.map Sl.dat [t.d, .list (l.map wD ++ [])] ++ List.replicate (4 - [t.d, PyData.list (l.map wD ++ [])].length) Sl.no) = .nx ρ := eo
    rw [this]; rfl
  | ex c f ρ =>
    rw [eo] at key
    obtain ⟨d, r', rfl, rfl, rfl⟩ := key
    have : exb info F b_look_ways (List.map Sl.dat [t.d, .list (l.map wD ++ d :: r')] ++ List.replicate (4 - [t.d, PyData.list (l.map wD ++ d :: r')].length) Sl.no) = .ex x_BadWay (some d) ρ := eo
    rw [this]; rfl
  | rt d => rw [eo] at key; exact key.elim
  | bk ρ => rw [eo] at key; exact key.elim
  | ct ρ => rw [eo] at key; exact key.elim
  | stuck => rw [eo] at key; exact key.elim
theorem look_ways_ok {k : Nat} (h : 4 ≤ k) (t : Tm) (l : List (List Nat)) (hv : ∀ w ∈ l, t.red w) (hn : l.Nodup) : callF info defs k f_look_ways [t.d, wsD l] = .ok .none := by
  have := look_ways_gen h t l hv hn [] (.inl rfl)
  rw [List.append_nil] at this
  exact this
theorem look_ways_twice {k : Nat} (h : 4 ≤ k) (t : Tm) (l : List (List Nat)) (hv : ∀ w ∈ l, t.red w) (hn : l.Nodup) (w : List Nat) (hw : w ∈ l) : callF info defs k f_look_ways [t.d, wsD (l ++ [w])] = .exc x_BadWay (some (wD w)) := by
  have := look_ways_gen h t l hv hn [wD w] (.inr ⟨_, _, rfl, .inr ⟨w, rfl, hw⟩⟩)
  rw [wsD, List.map_append]
  exact this
theorem look_ways_none {k : Nat} (h : 4 ≤ k) (t : Tm) (l : List (List Nat)) (hv : ∀ w ∈ l, t.red w) (hn : l.Nodup) (w : List Nat) (hw : ¬ t.red w) : callF info defs k f_look_ways [t.d, wsD (l ++ [w])] = .exc x_BadWay (some (wD w)) := by
  have := look_ways_gen h t l hv hn [wD w] (.inr ⟨_, _, rfl, .inl (look_way_no (by omega) t w hw)⟩)
  rw [wsD, List.map_append]
  exact this
end K30

namespace K30
open PySem CH
theorem way_isInts (w : List Nat) : isInts (wD w) = true := by
  show (nD w).all isInt = true
  rw [List.all_eq_true]
  intro d hd
  obtain ⟨x, _, rfl⟩ := List.mem_map.mp hd
  rfl
theorem ways_sortable (l : List (List Nat)) : sortable (l.map wD) = true := by
  have : (l.map wD).all isInts = true := by
    rw [List.all_eq_true]
    intro d hd
    obtain ⟨w, _, rfl⟩ := List.mem_map.mp hd
    exact way_isInts w
  simp only [sortable, this, Bool.or_true, Bool.true_or]
end K30

namespace K30
open PySem CH
/-- what leads to no step: no tuple; no way of one; a way with a truth value behind -/
def oddW (t : Tm) (d : D) : Prop := (∀ xs, d ≠ .tuple xs) ∨ (∃ w, d = wD w ∧ ¬ t.red w) ∨ ∃ w b, d = .tuple (nD w ++ [.bool b])
theorem is_within_b {k : Nat} (h : 1 ≤ k) (v : Bool) (a b : Int) : callF info defs k f_is_within [.bool v, .int a, .int b] = .ok (.bool false) := by
  obtain ⟨k, rfl⟩ : ∃ j, k = j + 1 := ⟨k - 1, by omega⟩
  refine (c_is_within _ _).trans ?_
  generalize callF info defs k = F at *
  simp [b_is_within, tyS]
theorem part_at_nt {k : Nat} (h : 1 ≤ k) (t : Tm) (d : D) (hd : ∀ xs, d ≠ .tuple xs) : callF info defs k f_part_at [t.d, d] = .ok .none := by
  obtain ⟨k, rfl⟩ : ∃ j, k = j + 1 := ⟨k - 1, by omega⟩
  refine (c_part_at _ _).trans ?_
  generalize callF info defs k = F at *
  have e : tyS .tuple d = false := by
    cases d with
    | tuple xs => exact absurd rfl (hd xs)
    | _ => rfl
  simp [b_part_at, e]
theorem part_at_bool {k : Nat} (h : 2 ≤ k) (t : Tm) (w : List Nat) (b : Bool) : callF info defs k f_part_at [t.d, .tuple (nD w ++ [.bool b])] = .ok .none := by
  obtain ⟨k, rfl⟩ : ∃ j, k = j + 1 := ⟨k - 1, by omega⟩
  have hw : ∀ n : Nat, callF info defs k f_is_within [.int (n : Int), .int 0, .int 1] = .ok (.bool (decide (n ≤ 1))) := fun n => by
    rw [is_within_ok (by omega)]
    by_cases e : n ≤ 1
    · simp [e]; omega
    · simp [e]; omega
  have hb := is_within_b (k := k) (by omega) b 0 1
  refine (c_part_at _ _).trans ?_
  generalize callF info defs k = F at *
  refine gv_eq (gv_out ?_)
  simp [b_part_at]
  refine wp_forH (fun n ρ => ∃ (u : Tm) (s : Sl), ρ = [.dat u.d, .dat (.tuple (nD w ++ [.bool b])), s] ∧ n ≤ w.length) ⟨t, _, rfl, Nat.zero_le _⟩ ?_ ?_
  · rintro J hJ n d ρ hd ⟨u, s, rfl, hn⟩
    by_cases hl : n < w.length
    · rw [List.getElem?_append_left (by simpa using hl)] at hd
      obtain ⟨x, hx, rfl⟩ := nD_at hd
      refine ⟨_, rfl, ?_⟩
      match u with
      | .lf q => simp [l_part_at_1, r_part_at_1, Tm.d]
      | .ap a b =>
        match x with
        | 0 =>
          have z := hw 0
          simp at z
          simp [l_part_at_1, Tm.d, z]
          exact hJ _ _ ⟨a, _, rfl, by omega⟩
        | 1 =>
          have z := hw 1
          simp at z
          simp [l_part_at_1, Tm.d, z]
          exact hJ _ _ ⟨b, _, rfl, by omega⟩
        | x + 2 =>
          have z := hw (x + 2)
          simp at z
          simp [l_part_at_1, r_part_at_1, Tm.d, z]
    · have e : n = w.length := by omega
      subst e
      rw [List.getElem?_append_right (by simp)] at hd
      simp at hd
      subst hd
      refine ⟨_, rfl, ?_⟩
      match u with
      | .lf q => simp [l_part_at_1, r_part_at_1, Tm.d]
      | .ap a b => simp [l_part_at_1, r_part_at_1, Tm.d, hb]
  · rintro ρ ⟨u, s, rfl, hn⟩
    rw [List.length_append, nD_len] at hn
    exact absurd hn (by simp)
theorem look_way_odd {k : Nat} (h : 3 ≤ k) (t : Tm) (d : D) (ho : oddW t d) : callF info defs k f_look_way [t.d, d] = .exc x_BadWay (some d) := by
  rcases ho with ho | ⟨w, rfl, hr⟩ | ⟨w, b, rfl⟩
  · obtain ⟨k, rfl⟩ : ∃ j, k = j + 1 := ⟨k - 1, by omega⟩
    have h1 := part_at_nt (k := k) (by omega) t d ho
    refine (c_look_way _ _).trans ?_
    generalize callF info defs k = F at *
    simp [b_look_way, h1]
  · exact look_way_no h t w hr
  · obtain ⟨k, rfl⟩ : ∃ j, k = j + 1 := ⟨k - 1, by omega⟩
    have h1 := part_at_bool (k := k) (by omega) t w b
    refine (c_look_way _ _).trans ?_
    generalize callF info defs k = F at *
    simp [b_look_way, h1]
theorem step_to_odd {k : Nat} (h : 4 ≤ k) (t : Tm) (d : D) (ho : oddW t d) : callF info defs k f_step_to [t.d, d] = .exc x_BadWay (some d) := by
  obtain ⟨k, rfl⟩ : ∃ j, k = j + 1 := ⟨k - 1, by omega⟩
  have h1 := look_way_odd (k := k) (by omega) t d ho
  refine (c_step_to _ _).trans ?_
  generalize callF info defs k = F at *
  simp [b_step_to, h1]
theorem look_ways_odd {k : Nat} (h : 4 ≤ k) (t : Tm) (d : D) (ho : oddW t d) : callF info defs k f_look_ways [t.d, .list [d]] = .exc x_BadWay (some d) :=
  look_ways_gen h t [] (by simp) .nil [d] (.inr ⟨d, [], rfl, .inl (look_way_odd (by omega) t d ho)⟩)
theorem stepped_odd {k : Nat} (t : Tm) (d : D) (hok : t.ok = true) (hl : t.lv ≤ 200) (hk : t.dp + 6 ≤ k) (ho : oddW t d) : callF info defs k f_stepped [t.d, d] = .exc x_BadWay (some d) := by
  obtain ⟨k, rfl⟩ : ∃ j, k = j + 1 := ⟨k - 1, by omega⟩
  have hc := checked_ok t (k := k) hok hl (by omega)
  have h1 := step_to_odd (k := k) (by omega) t d ho
  refine (c_stepped _ _).trans ?_
  generalize callF info defs k = F at *
  simp [b_stepped, hc, h1]
theorem led_odd {k : Nat} (t : Tm) (d : D) (hok : t.ok = true) (hl : t.lv ≤ 200) (hk : t.dp + 6 ≤ k) (ho : oddW t d) : callF info defs k f_led [t.d, .list [d]] = .exc x_BadWay (some d) := by
  obtain ⟨k, rfl⟩ : ∃ j, k = j + 1 := ⟨k - 1, by omega⟩
  have hc := checked_ok t (k := k) hok hl (by omega)
  have h1 := step_to_odd (k := k) (by omega) t d ho
  refine (c_led _ _).trans ?_
  generalize callF info defs k = F at *
  simp [b_led, hc, forS, l_led_1, h1]
theorem walked_odd {k : Nat} (t : Tm) (d : D) (hok : t.ok = true) (hl : t.lv ≤ 200) (hk : t.dp + 6 ≤ k) (ho : oddW t d) : callF info defs k f_walked [t.d, .list [.list [], .list [d]]] = .exc x_BadWay (some d) := by
  obtain ⟨k, rfl⟩ : ∃ j, k = j + 1 := ⟨k - 1, by omega⟩
  have hc := checked_ok t (k := k) hok hl (by omega)
  have h1 := look_ways_odd (k := k) (by omega) t d ho
  have h0 := look_ways_ok (k := k) (by omega) t [] (by simp) .nil
  have ha := all_done_ok t (k := k) [] (Tm.val_in (by simp)) (by omega)
  have hlk := looked_ok t (k := k) hok hl (by omega)
  rw [show t.dev (isIn []) = t from Tm.dev_none t fun w => rfl] at ha
  refine (c_walked _ _).trans ?_
  generalize callF info defs k = F at *
  simp [wsD] at h0 ha
  simp [b_walked, hc, forS, l_walked_1, h0, h1, ha, hlk]
theorem stepped_ok {k : Nat} (t u : Tm) (w : List Nat) (ho : t.ok = true) (hl : t.lv ≤ 200) (hp : t.part w = some u) (hd : u.deed ≠ 0) (hs : (t.step w).lv ≤ 200) (hk : t.dp + 7 ≤ k) : callF info defs k f_stepped [t.d, wD w] = .ok (t.step w).d := by
  obtain ⟨k, rfl⟩ : ∃ j, k = j + 1 := ⟨k - 1, by omega⟩
  have hc := checked_ok t (k := k) ho hl (by omega)
  have hw := Tm.whi_le.part_len t w u hp
  have := t.dp_lv
  have h1 := step_to_ok (k := k) t u w hp hd (by omega) (by omega)
  have hsd := t.step_dp w
  have h2 := looked_ok (t.step w) (k := k) (t.step_okk w ho) hs (by omega)
  refine (c_stepped _ _).trans ?_
  generalize callF info defs k = F at *
  simp [b_stepped, hc, h1, h2]
end K30

namespace K30
open PySem CH
/-- lines of a paper: on; back; what is none -/
inductive Ln where
  | on (w : List Nat)
  | back (t : Tm) (w : List Nat)
  | odd (d : D)
def Ln.d : Ln → D
  | .on w => .tuple [.str "on", wD w]
  | .back t w => .tuple [.str "back", t.d, wD w]
  | .odd d => d
/-- what a step makes, if it is one and not too big -/
def aft (t : Tm) (w : List Nat) : Option Tm := if isIn t.ways w = true ∧ (t.step w).lv ≤ 200 then some (t.step w) else none
def Ln.to (t : Tm) : Ln → Option Tm
  | .on w => aft t w
  | .back u w => if u.lv ≤ 200 ∧ aft u w = some t then some u else none
  | .odd _ => none
def endL : List Ln → Tm → Option Tm
  | [], t => some t
  | l :: r, t => (l.to t).bind (endL r)
/-- a thing that is no line -/
def oddL (d : D) : Prop := (∀ xs, d ≠ .tuple xs) ∨ d = .tuple [] ∨ (∃ x, d = .tuple [x]) ∨ (∃ x y, d = .tuple [.str "back", x, y] ∧ x = .none) ∨ (∃ x y, d = .tuple [.str "back", x] ∧ y = x) ∨ (∃ x y, d = .tuple [.none, x] ∧ y = x) ∨ (∃ x y, d = .tuple [.str "on", x, y]) ∨ (∃ x y z w, d = .tuple [x, y, z, w]) ∨ d = .tuple [.str "on", .none]
def Ln.okk (B : Nat) : Ln → Prop
  | .on w => w.length ≤ 400
  | .back t w => t.ok = true ∧ t.dp ≤ B ∧ t.lv ≤ 400 ∧ w.length ≤ 400
  | .odd d => oddL d
def oT : Option Tm → D
  | some t => t.d
  | none => .none
theorem eq_none_d (t : Tm) : dEq .none t.d = some (.bool false) := by
  rw [dEq_of _ _ (by simp [PyData.depth])]
  cases t <;> simp [Tm.d, PyData.eqv]
theorem eq_d (t u : Tm) (h : t.dp ≤ 400) : dEq t.d u.d = some (.bool (decide (t = u))) := by
  rw [dEq_of _ _ (by rw [Tm.d_depth]; omega), Tm.eqv_d]
theorem eq_oT (o : Option Tm) (u : Tm) (h : ∀ t, o = some t → t.dp ≤ 400) : dEq (oT o) u.d = some (.bool (decide (o = some u))) := by
  cases o with
  | none => rw [oT, eq_none_d]; simp
  | some t => rw [oT, eq_d t u (h t rfl)]; simp
theorem ways_in (t : Tm) (w : List Nat) : isIn t.ways w = true ↔ t.red w := by rw [isIn_iff, t.mem_ways]
theorem aft_some {t u : Tm} {w : List Nat} (h : aft t w = some u) : t.red w ∧ u = t.step w ∧ u.lv ≤ 200 := by
  unfold aft at h
  split at h
  · rename_i c
    cases h
    exact ⟨(ways_in t w).mp c.1, rfl, c.2⟩
  · cases h
theorem to_bd {B : Nat} {t u : Tm} {l : Ln} (hl : l.okk B) (ho : t.ok = true) (hd : t.dp ≤ B) (h : l.to t = some u) : u.ok = true ∧ u.lv ≤ 200 ∧ u.dp ≤ B + 1 := by
  cases l with
  | on w =>
    obtain ⟨h1, rfl, h3⟩ := aft_some (show aft t w = some u from h)
    exact ⟨t.step_okk w ho, h3, Nat.le_trans (t.step_dp w) (by omega)⟩
  | back v w =>
    simp only [Ln.to] at h
    split at h
    · rename_i c
      cases h
      obtain ⟨h1, h2, h3, h4⟩ := hl
      exact ⟨h1, c.1, by omega⟩
    · cases h
  | odd d => cases h
theorem eqv_s (x : D) (s : Str) : dEq x (.str s) = some (.bool (PyData.eqv x (.str s))) := dEq_of _ _ (by simp [PyData.depth])
theorem part_ap_isN (u : Tm) : isN u.d = false := by cases u <;> rfl
theorem after_ok {k : Nat} (t : Tm) (w : List Nat) (ho : t.ok = true) (hl : t.lv ≤ 400) (hw : w.length ≤ 400) (hk : t.dp + 8 ≤ k) : callF info defs k f_after [t.d, wD w] = .ok (oT (aft t w)) := by
  obtain ⟨k, rfl⟩ : ∃ j, k = j + 1 := ⟨k - 1, by omega⟩
  have h1 := part_at_ok (k := k) (by omega) t w
  by_cases hr : t.red w
  · obtain ⟨u, hp, hd⟩ := id hr
    rw [hp] at h1
    have hl2 := Tm.red_len hr
    have h2 := deed_ok (k := k) (by omega) u
    have h3 := step_to_ok (k := k) t u w hp hd (by omega) (by omega)
    have hsd := t.step_dp w
    have h4 := is_term_ok (t.step w) (k := k) (t.step_okk w ho) (by omega)
    have hN := part_ap_isN u
    have e : aft t w = if (t.step w).lv ≤ 200 then some (t.step w) else none := by
      unfold aft; rw [(ways_in t w).mpr hr]; simp
    rw [e]
    refine (c_after _ _).trans ?_
    generalize callF info defs k = F at *
    by_cases hb : (t.step w).lv ≤ 200
    · simp [b_after, h1, h2, h3, h4, tru_deed, hd, hN, hb, oT]
    · simp [b_after, h1, h2, h3, h4, tru_deed, hd, hN, hb, oT]
  · have e : aft t w = none := by
      unfold aft
      rw [if_neg fun c => hr ((ways_in t w).mp c.1)]
    rw [e]
    refine (c_after _ _).trans ?_
    cases hp : t.part w with
    | none =>
      rw [hp] at h1
      generalize callF info defs k = F at *
      simp [b_after, h1, oT]
    | some u =>
      rw [hp] at h1
      have hd : u.deed = 0 := Classical.byContradiction fun z => hr ⟨u, hp, z⟩
      have h2 := deed_ok (k := k) (by omega) u
      have hN := part_ap_isN u
      generalize callF info defs k = F at *
      simp [b_after, h1, h2, tru_deed, hd, hN, oT]
theorem after_none {k : Nat} (t : Tm) (hk : 3 ≤ k) : callF info defs k f_after [t.d, .none] = .ok .none := by
  obtain ⟨k, rfl⟩ : ∃ j, k = j + 1 := ⟨k - 1, by omega⟩
  have h1 := part_at_nt (k := k) (by omega) t .none (fun xs z => by cases z)
  refine (c_after _ _).trans ?_
  generalize callF info defs k = F at *
  simp [b_after, h1]
theorem is_term_none {k : Nat} (hk : 6 ≤ k) : callF info defs k f_is_term [.none] = .ok (.bool false) := by
  obtain ⟨k, rfl⟩ : ∃ j, k = j + 1 := ⟨k - 1, by omega⟩
  have h1 : callF info defs k f_left_of [.none, .int 200] = .ok (.int (-1)) := by
    obtain ⟨k, rfl⟩ : ∃ j, k = j + 1 := ⟨k - 1, by omega⟩
    have h2 : callF info defs k f_is_leaf [.none] = .ok (.bool false) := by
      obtain ⟨k, rfl⟩ : ∃ j, k = j + 1 := ⟨k - 1, by omega⟩
      refine (c_is_leaf _ _).trans ?_
      generalize callF info defs k = F at *
      simp [b_is_leaf, tyS]
    refine (c_left_of _ _).trans ?_
    generalize callF info defs k = F at *
    simp [b_left_of, tyS, h2]
  refine (c_is_term _ _).trans ?_
  generalize callF info defs k = F at *
  simp [b_is_term, h1]
theorem line_to_ok {k B : Nat} (t : Tm) (l : Ln) (hb : l.okk B) (ho : t.ok = true) (hl : t.lv ≤ 400) (hd : t.dp ≤ B) (hB : B ≤ 390) (hk : B + 9 ≤ k) : callF info defs k f_line_to [t.d, l.d] = .ok (oT (l.to t)) := by
  obtain ⟨k, rfl⟩ : ∃ j, k = j + 1 := ⟨k - 1, by omega⟩
  cases l with
  | on w =>
    have h1 := after_ok (k := k) t w ho hl hb (by omega)
    refine (c_line_to _ _).trans ?_
    generalize callF info defs k = F at *
    simp [b_line_to, Ln.d, h1, Ln.to]
  | back u w =>
    obtain ⟨g1, g2, g3, g4⟩ := hb
    have h1 := after_ok (k := k) u w g1 g3 g4 (by omega)
    have h2 := is_term_ok u (k := k) g1 (by omega)
    have h3 := eq_oT (aft u w) t (fun v e => by
      obtain ⟨_, rfl, h⟩ := aft_some e
      have := (u.step w).dp_lv
      omega)
    refine (c_line_to _ _).trans ?_
    generalize callF info defs k = F at *
    have e0 : ¬ ("back" : Str) = "on" := by decide +kernel
    generalize oT (aft u w) = z at h1 h3
    by_cases c1 : u.lv ≤ 200
    · by_cases c2 : aft u w = some t
      · simp [b_line_to, Ln.d, h1, h2, h3, Ln.to, c1, c2, e0, oT]
      · simp [b_line_to, Ln.d, h1, h2, h3, Ln.to, c1, c2, e0, oT]
    · simp [b_line_to, Ln.d, h1, h2, h3, Ln.to, c1, e0, oT]
  | odd d =>
    have h0 := after_none (k := k) t (by omega)
    have ht := is_term_none (k := k) (by omega)
    have e0 : ¬ ("back" : Str) = "on" := by decide +kernel
    have e1 : dEq .none (.str "on") = some (.bool false) := rfl
    have e2 : dEq .none (.str "back") = some (.bool false) := rfl
    have e3 : ¬ ("on" : Str) = "back" := by decide +kernel
    refine (c_line_to _ _).trans ?_
    generalize callF info defs k = F at *
    rcases hb with hb | rfl | ⟨x, rfl⟩ | ⟨x, y, rfl, rfl⟩ | ⟨x, y, rfl, rfl⟩ | ⟨x, y, rfl, rfl⟩ | ⟨x, y, rfl⟩ | ⟨x, y, z, w, rfl⟩ | rfl
    · have e : tyS .tuple d = false := by
        cases d with
        | tuple xs => exact absurd rfl (hb xs)
        | _ => rfl
      simp [b_line_to, Ln.d, Ln.to, oT, e]
    · simp [b_line_to, Ln.d, Ln.to, oT]
    · have h1 := eqv_s x "on"
      have h2 := eqv_s x "back"
      generalize PyData.eqv x (.str "on") = b1 at *
      generalize PyData.eqv x (.str "back") = b2 at *
      cases b1 <;> cases b2 <;> simp [b_line_to, Ln.d, Ln.to, oT, h1, h2]
    · simp [b_line_to, Ln.d, Ln.to, oT, ht, e0]
    · simp [b_line_to, Ln.d, Ln.to, oT, e0]
    · simp [b_line_to, Ln.d, Ln.to, oT, e1, e2]
    · simp [b_line_to, Ln.d, Ln.to, oT, e3]
    · have h1 := eqv_s x "on"
      have h2 := eqv_s x "back"
      generalize PyData.eqv x (.str "on") = b1 at *
      generalize PyData.eqv x (.str "back") = b2 at *
      cases b1 <;> cases b2 <;> simp [b_line_to, Ln.d, Ln.to, oT, h1, h2]
    · simp [b_line_to, Ln.d, Ln.to, oT, h0]
theorem end_of_ok {k B : Nat} (L : List Ln) (hb : ∀ l ∈ L, l.okk B) (t : Tm) (ho : t.ok = true) (hl : t.lv ≤ 200) (hd : t.dp ≤ B) (hB : B ≤ 300) (hlen : L.length ≤ 12) (hk : B + 24 ≤ k) : callF info defs k f_end_of [t.d, .list (L.map Ln.d)] = .ok (oT (endL L t)) := by
  obtain ⟨k, rfl⟩ : ∃ j, k = j + 1 := ⟨k - 1, by omega⟩
  have hok : ∀ (n : Nat), n ≤ 12 → ∀ l ∈ L, l.okk (B + n) := fun n _ l h => by
    have := hb l h
    cases l with
    | on w => exact this
    | back u w => exact ⟨this.1, by have := this.2.1; omega, this.2.2⟩
    | odd d => exact this
  have h1 : ∀ (n : Nat) (u : Tm) (l : Ln), n ≤ 12 → l ∈ L → u.ok = true → u.lv ≤ 200 → u.dp ≤ B + n → callF info defs k f_line_to [u.d, l.d] = .ok (oT (l.to u)) := fun n u l hn hm h1 h2 h3 => line_to_ok (B := B + n) u l (hok n hn l hm) h1 (by omega) h3 (by omega) (by omega)
  refine (c_end_of _ _).trans ?_
  generalize callF info defs k = F at *
  have hlen' : ¬ (12 : Int) < L.length := by omega
  refine gv_eq (gv_out ?_)
  simp [b_end_of, hlen']
  refine wp_forH (fun i ρ => ∃ (u : Tm) (s : Sl), ρ = [.dat u.d, .dat (.list (L.map Ln.d)), s] ∧ u.ok = true ∧ u.lv ≤ 200 ∧ u.dp ≤ B + i ∧ i ≤ L.length ∧ endL (L.drop i) u = endL L t) ⟨t, _, rfl, ho, hl, by omega, Nat.zero_le _, rfl⟩ ?_ ?_
  · rintro J hJ i d ρ hd' ⟨u, s, rfl, g1, g2, g3, g4, g5⟩
    obtain ⟨l, hl', rfl⟩ := map_at hd'
    have hil := (List.getElem?_eq_some_iff.mp hl').1
    have hm := List.mem_of_getElem? hl'
    have e := h1 i u l (by omega) hm g1 g2 g3
    rw [drop_at hl', endL] at g5
    refine ⟨_, rfl, ?_⟩
    cases eu : l.to u with
    | none =>
      rw [eu] at e g5
      have g5 : none = endL L t := g5
      simp [l_end_of_1, e, oT, ← g5]
    | some v =>
      rw [eu] at e g5
      have bd := to_bd (hok i (by omega) l hm) g1 g3 eu
      have hN := part_ap_isN v
      simp [l_end_of_1, e, oT, hN]
      exact hJ _ _ ⟨v, _, rfl, bd.1, bd.2.1, by omega, by omega, g5⟩
  · rintro ρ ⟨u, s, rfl, g1, g2, g3, g4, g5⟩
    rw [List.length_map, List.drop_length] at g5
    have g5 : some u = endL L t := g5
    simp [r_end_of_1, ← g5, oT]
theorem end_of_no {k : Nat} (h : 1 ≤ k) (x d : D) (hd : (∀ xs, d ≠ .list xs) ∨ ∃ xs, d = .list xs ∧ 12 < xs.length) : callF info defs k f_end_of [x, d] = .ok .none := by
  obtain ⟨k, rfl⟩ : ∃ j, k = j + 1 := ⟨k - 1, by omega⟩
  refine (c_end_of _ _).trans ?_
  generalize callF info defs k = F at *
  rcases hd with hd | ⟨xs, rfl, hx⟩
  · have e : tyS .list d = false := by
      cases d with
      | list xs => exact absurd rfl (hd xs)
      | _ => rfl
    simp [b_end_of, e]
  · have hx' : (12 : Int) < xs.length := by omega
    simp [b_end_of, hx']
theorem okk_mono {B C : Nat} (h : B ≤ C) {l : Ln} (hl : l.okk B) : l.okk C := by
  cases l with
  | on w => exact hl
  | back u w => exact ⟨hl.1, by have := hl.2.1; omega, hl.2.2⟩
  | odd d => exact hl
theorem endL_bd : ∀ (L : List Ln) (B : Nat) (t u : Tm), (∀ l ∈ L, l.okk B) → t.ok = true → t.lv ≤ 200 → t.dp ≤ B → endL L t = some u → u.ok = true ∧ u.lv ≤ 200 ∧ u.dp ≤ B + L.length
  | [], B, t, u, _, ho, hl, hd, h => by cases h; exact ⟨ho, hl, hd⟩
  | l :: r, B, t, u, hb, ho, hl, hd, h => by
    rw [endL] at h
    cases e : l.to t with
    | none => rw [e] at h; cases h
    | some v =>
      rw [e] at h
      have b := to_bd (hb l (List.mem_cons_self ..)) ho hd e
      have := endL_bd r (B + 1) v u (fun l h => okk_mono (Nat.le_succ _) (hb l (List.mem_cons_of_mem _ h))) b.1 b.2.1 b.2.2 h
      exact ⟨this.1, this.2.1, by rw [List.length_cons]; omega⟩
theorem led_by_ok {k : Nat} (t : Tm) (d : D) (e : Option Tm) (ht : t.ok = true) (hl : t.lv ≤ 200) (hk : t.dp + 6 ≤ k) (he : callF info defs (k - 1) f_end_of [t.d, d] = .ok (oT e)) : (e = none → callF info defs k f_led_by [t.d, d] = .exc x_BadPaper none) ∧ ∀ u, e = some u → callF info defs k f_led_by [t.d, d] = .ok u.d := by
  obtain ⟨k, rfl⟩ : ∃ j, k = j + 1 := ⟨k - 1, by omega⟩
  rw [Nat.add_sub_cancel] at he
  have h1 := checked_ok t (k := k) ht hl (by omega)
  have c := c_led_by k [t.d, d]
  generalize callF info defs k = F at *
  refine ⟨fun z => ?_, fun u z => ?_⟩
  · subst z
    refine c.trans ?_
    simp [b_led_by, h1, he, oT]
  · subst z
    have hN := part_ap_isN u
    refine c.trans ?_
    simp [b_led_by, h1, he, oT, hN]
end K30

namespace K30
open PySem CH
theorem checked_bad {k : Nat} (t : Tm) (ho : t.ok = true) (hl : ¬ t.lv ≤ 200) (hk : t.dp + 5 ≤ k) : callF info defs k f_checked [t.d] = .exc x_BadTerm none := by
  obtain ⟨k, rfl⟩ : ∃ j, k = j + 1 := ⟨k - 1, by omega⟩
  have h1 := is_term_ok t (k := k) ho (by omega)
  refine (c_checked _ _).trans ?_
  generalize callF info defs k = F at *
  simp [b_checked, h1, hl]
theorem leaves_ok {k : Nat} (t : Tm) (ho : t.ok = true) (hl : t.lv ≤ 200) (hk : t.dp + 6 ≤ k) : callF info defs k f_leaves [t.d] = .ok (.int (t.lv : Int)) := by
  obtain ⟨k, rfl⟩ : ∃ j, k = j + 1 := ⟨k - 1, by omega⟩
  have h1 := checked_ok t (k := k) ho hl (by omega)
  have h2 := left_of_ok t (k := k) ho (by omega) 200
  rw [leftN_le hl] at h2
  refine (c_leaves _ _).trans ?_
  generalize callF info defs k = F at *
  simp at h2
  simp [b_leaves, h1, h2]
  omega
theorem leaves_bad {k : Nat} (t : Tm) (ho : t.ok = true) (hl : ¬ t.lv ≤ 200) (hk : t.dp + 6 ≤ k) : callF info defs k f_leaves [t.d] = .exc x_BadTerm none := by
  obtain ⟨k, rfl⟩ : ∃ j, k = j + 1 := ⟨k - 1, by omega⟩
  have h1 := checked_bad t (k := k) ho hl (by omega)
  refine (c_leaves _ _).trans ?_
  generalize callF info defs k = F at *
  simp [b_leaves, h1]
theorem edge_leaves {k : Nat} (t : Tm) (ho : t.ok = true) (hk : t.dp + 7 ≤ k) : callF info defs k f__law_edge [.int 0, t.d] = .ok (.str (if t.lv ≤ 200 then "" else "term")) := by
  obtain ⟨k, rfl⟩ : ∃ j, k = j + 1 := ⟨k - 1, by omega⟩
  by_cases h : t.lv ≤ 200
  · have h1 := leaves_ok t (k := k) ho h (by omega)
    refine (c__law_edge _ _).trans ?_
    generalize callF info defs k = F at *
    simp [b__law_edge, r__law_edge_1, h1, h]
  · have h1 := leaves_bad t (k := k) ho h (by omega)
    refine (c__law_edge _ _).trans ?_
    generalize callF info defs k = F at *
    simp [b__law_edge, h1, h]
theorem edge_step {k : Nat} (t : Tm) (ho : t.ok = true) (hl : t.lv ≤ 200) (hr : t.red []) (hk : t.dp + 9 ≤ k) : callF info defs k f__law_edge [.int 1, t.d] = .ok (.str (if (t.step []).lv ≤ 200 then "" else "big")) := by
  obtain ⟨k, rfl⟩ : ∃ j, k = j + 2 := ⟨k - 2, by omega⟩
  have h1 := checked_ok t (k := k) ho hl (by omega)
  obtain ⟨u, hp, hd⟩ := id hr
  have h2 : callF info defs k f_step_to [t.d, .tuple []] = .ok (t.step []).d := step_to_ok (k := k) t u [] hp hd (by simp; omega) (by simp)
  have ho2 := t.step_okk [] ho
  have hd2 := t.step_dp []
  by_cases h : (t.step []).lv ≤ 200
  · have h3 := looked_ok (t.step []) (k := k) ho2 h (by omega)
    have h4 : callF info defs (k + 1) f_stepped [t.d, .tuple []] = .ok (t.step []).d := by
      refine (c_stepped _ _).trans ?_
      generalize callF info defs k = F at *
      simp [b_stepped, h1, h2, h3]
    refine (c__law_edge _ _).trans ?_
    generalize callF info defs (k + 1) = F at *
    simp [b__law_edge, r__law_edge_1, h4, h]
  · have h3 := looked_big (t.step []) (k := k) ho2 h (by omega)
    have h4 : callF info defs (k + 1) f_stepped [t.d, .tuple []] = .exc x_TooBig none := by
      refine (c_stepped _ _).trans ?_
      generalize callF info defs k = F at *
      simp [b_stepped, h1, h2, h3]
    refine (c__law_edge _ _).trans ?_
    generalize callF info defs (k + 1) = F at *
    simp [b__law_edge, h4, h]
theorem edge_meet {k : Nat} (n : Nat) (hn : 1 ≤ n) (hn2 : n ≤ 20) (hk : 30 ≤ k) : callF info defs k f__law_edge [.int 2, .list (List.replicate n (wD []))] = .ok (.str (if n ≤ 8 then "way" else "count")) := by
  obtain ⟨k, rfl⟩ : ∃ j, k = j + 3 := ⟨k - 3, by omega⟩
  have hK : (Tm.lf "K").ok = true := by decide +kernel
  have h1 := checked_ok (.lf "K") (k := k) hK (by simp [Tm.lv]) (by simp [Tm.dp]; omega)
  have h2 : callF info defs (k + 1) f_led [.str "K", .list []] = .ok (.str "K") := led_ok (k := k + 1) (.lf "K") (.lf "K") [] hK (by simp [Tm.lv]) rfl (by simp [Tm.whi, Tm.dp]; omega)
  have h3 : callF info defs k f_step_to [.str "K", .tuple []] = .exc x_BadWay (some (.tuple [])) := by
    obtain ⟨k, rfl⟩ : ∃ j, k = j + 1 := ⟨k - 1, by omega⟩
    have h : callF info defs k f_look_way [.str "K", .tuple []] = .exc x_BadWay (some (.tuple [])) := look_way_no (k := k) (by omega) (.lf "K") [] Tm.red_lf
    refine (c_step_to _ _).trans ?_
    generalize callF info defs k = F at *
    simp [b_step_to, h]
  have h4 : callF info defs (k + 1) f_led [.str "K", .list (List.replicate n (wD []))] = .exc x_BadWay (some (.tuple [])) := by
    obtain ⟨m, rfl⟩ : ∃ m, n = m + 1 := ⟨n - 1, by omega⟩
    have h1 : callF info defs k f_checked [.str "K"] = .ok (.str "K") := h1
    refine (c_led _ _).trans ?_
    generalize callF info defs k = F at *
    simp [b_led, l_led_1, h1, h3, List.replicate_succ, forS, wD]
  have h5 : callF info defs (k + 2) f_meet [.str "K", .list [], .list (List.replicate n (wD []))] = if n ≤ 8 then .exc x_BadWay (some (.tuple [])) else .exc x_BadCount none := by
    refine (c_meet _ _).trans ?_
    generalize callF info defs (k + 1) = F at *
    by_cases h : n ≤ 8
    · have h' : ¬ (8 : Int) < n := by omega
      simp [b_meet, h2, h4, h, h']
    · have h' : (8 : Int) < n := by omega
      simp [b_meet, h, h']
  refine (c__law_edge _ _).trans ?_
  generalize callF info defs (k + 2) = F at *
  by_cases h : n ≤ 8
  · rw [if_pos h] at h5
    simp [b__law_edge, h5, h]
  · rw [if_neg h] at h5
    simp [b__law_edge, h5, h]
def pairL : List Ln := [.back (.ap (.ap (.lf "K") (.lf "K")) (.lf "x")) [], .on []]
def longL : List Ln := (List.replicate 7 pairL).flatten
theorem endL_long : ∀ n, 10 ≤ n → n ≤ 12 → (endL (longL.take n) (.lf "K")).isSome = true := fun n h1 h2 => by
  have : ∀ m, m < 3 → (endL (longL.take (m + 10)) (.lf "K")).isSome = true := by decide +kernel
  have := this (n - 10) (by omega)
  rwa [show n - 10 + 10 = n by omega] at this
theorem edge_paper {k : Nat} (n : Nat) (hn : 10 ≤ n) (hn2 : n ≤ 14) (hk : 60 ≤ k) : callF info defs k f__law_edge [.int 3, .list ((longL.take n).map Ln.d)] = .ok (.str (if n ≤ 12 then "" else "paper")) := by
  obtain ⟨k, rfl⟩ : ∃ j, k = j + 2 := ⟨k - 2, by omega⟩
  have hK : (Tm.lf "K").ok = true := by decide +kernel
  have hlen : (longL.take n).length = n := by rw [List.length_take]; exact Nat.min_eq_left hn2
  have hok : ∀ l ∈ longL.take n, l.okk 10 := fun l h => by
    have h := List.mem_of_mem_take h
    obtain ⟨m, h1, h2⟩ := List.mem_flatten.mp h
    rw [List.mem_replicate] at h1
    rw [h1.2] at h2
    simp only [pairL, List.mem_cons, List.not_mem_nil, or_false] at h2
    rcases h2 with rfl | rfl
    · exact ⟨by decide +kernel, by decide, by decide, by decide⟩
    · exact (by decide : (0 : Nat) ≤ 400)
  have e0 : ∃ e : Option Tm, e.isSome = decide (n ≤ 12) ∧ callF info defs k f_end_of [(Tm.lf "K").d, .list ((longL.take n).map Ln.d)] = .ok (oT e) := by
    by_cases h : n ≤ 12
    · exact ⟨_, by rw [endL_long n hn h]; simp [h], end_of_ok (B := 10) (longL.take n) hok (.lf "K") hK (by decide) (by decide) (by omega) (by omega) (by omega)⟩
    · exact ⟨none, by simp [h], end_of_no (by omega) _ _ (.inr ⟨_, rfl, by rw [List.length_map]; omega⟩)⟩
  obtain ⟨e, e1, e2⟩ := e0
  have e3 := led_by_ok (k := k + 1) (.lf "K") (.list ((longL.take n).map Ln.d)) e hK (by decide) (by simp [Tm.dp]; omega) (by rw [Nat.add_sub_cancel]; exact e2)
  refine (c__law_edge _ _).trans ?_
  generalize callF info defs (k + 1) = F at *
  generalize (longL.take n).map Ln.d = LL at *
  cases e with
  | none =>
    have e3 : F f_led_by [.str "K", .list LL] = .exc x_BadPaper none := e3.1 rfl
    have h : ¬ n ≤ 12 := fun h => by simp [h] at e1
    simp [b__law_edge, e3, h]
  | some u =>
    have e3 : F f_led_by [.str "K", .list LL] = .ok u.d := e3.2 u rfl
    have h : n ≤ 12 := by simpa using e1.symm
    simp [b__law_edge, r__law_edge_1, e3, h]
theorem edge_played {k : Nat} (n : Nat) (hn : 1 ≤ n) (hk : 60 ≤ k) : callF info defs k f__law_edge [.int 4, .int (n : Int)] = .ok (.str (if n ≤ 400 then "" else "count")) := by
  obtain ⟨k, rfl⟩ : ∃ j, k = j + 1 := ⟨k - 1, by omega⟩
  have hK : (Tm.lf "K").ok = true := by decide +kernel
  by_cases h : n ≤ 400
  · have h1 := played_ok (k := k) (.lf "K") n hK (by decide) h (by
      obtain ⟨m, rfl⟩ : ∃ m, n = m + 1 := ⟨n - 1, by omega⟩
      simp [Tm.hi, Tm.dp, Tm.ways]; omega)
    have h1 : callF info defs k f_played [.str "K", .int (n : Int)] = _ := h1
    refine (c__law_edge _ _).trans ?_
    generalize callF info defs k = F at *
    simp [b__law_edge, r__law_edge_1, h1, h]
  · have h1 : callF info defs k f_played [.str "K", .int (n : Int)] = .exc x_BadCount none := played_bad (k := k) (.lf "K") (.int n) hK (by decide) (by simp [Tm.dp]; omega) (by simp [inNum]; omega)
    refine (c__law_edge _ _).trans ?_
    generalize callF info defs k = F at *
    simp [b__law_edge, h1, h]
theorem law_true : ∀ ns : List Int, ns.length ≤ 63 → (∀ z ∈ ns, PySem.Builtin.Int.intBits z ≤ 1048576) → callF info defs 211 f_law [.list (ns.map .int)] = .ok (.bool true) := by
  intro ns _ _
  obtain ⟨r, hr, er⟩ := law_row (k := 210) (by decide) ns 1
  have er : callF info defs 210 f__law_row [.list (ns.map .int), .int 1] = .ok (.list (nD r)) := er
  have hlen := hr.len
  obtain ⟨a0, _, e0⟩ := row_at hr (i := 0) (by omega)
  obtain ⟨a1, _, e1⟩ := row_at hr (i := 1) (by omega)
  obtain ⟨a3, _, e3⟩ := row_at hr (i := 3) (by omega)
  obtain ⟨a4, _, e4⟩ := row_at hr (i := 4) (by omega)
  obtain ⟨a5, _, e5⟩ := row_at hr (i := 5) (by omega)
  obtain ⟨a6, _, e6⟩ := row_at hr (i := 6) (by omega)
  have e0 : L2.atI (nD r) 0 = some (.int (a0 : Int)) := e0
  have e1 : L2.atI (nD r) 1 = some (.int (a1 : Int)) := e1
  have e3 : L2.atI (nD r) 3 = some (.int (a3 : Int)) := e3
  have e4 : L2.atI (nD r) 4 = some (.int (a4 : Int)) := e4
  have e5 : L2.atI (nD r) 5 = some (.int (a5 : Int)) := e5
  have e6 : L2.atI (nD r) 6 = some (.int (a6 : Int)) := e6
  obtain ⟨s0, hs0, _, es0⟩ := law_leaf (k := 210) (by decide) a1
  have el : ∀ n : Nat, ∃ s : Str, (Tm.lf s).ok = true ∧ callF info defs 210 f__law_leaf [.int (n : Int)] = .ok (.str s) := fun n => by
    obtain ⟨s, h1, _, h2⟩ := law_leaf (k := 210) (by decide) n
    exact ⟨s, h1, h2⟩
  have f0 : ∀ t : Tm, t.ok = true → t.dp ≤ 203 → callF info defs 210 f__law_edge [.int 0, t.d] = .ok (.str (if t.lv ≤ 200 then "" else "term")) := fun t h1 h2 => edge_leaves t h1 (by omega)
  have f1 : ∀ t : Tm, t.ok = true → t.lv ≤ 200 → t.red [] → t.dp ≤ 200 → callF info defs 210 f__law_edge [.int 1, t.d] = .ok (.str (if (t.step []).lv ≤ 200 then "" else "big")) := fun t h1 h2 h3 h4 => edge_step t h1 h2 h3 (by omega)
  have f2 : ∀ n : Nat, 1 ≤ n → n ≤ 20 → callF info defs 210 f__law_edge [.int 2, .list (List.replicate n (wD []))] = .ok (.str (if n ≤ 8 then "way" else "count")) := fun n h1 h2 => edge_meet n h1 h2 (by decide)
  have f3 : ∀ n : Nat, 10 ≤ n → n ≤ 14 → callF info defs 210 f__law_edge [.int 3, .list ((longL.take n).map Ln.d)] = .ok (.str (if n ≤ 12 then "" else "paper")) := fun n h1 h2 => edge_paper n h1 h2 (by decide)
  have f4 : ∀ n : Nat, 1 ≤ n → callF info defs 210 f__law_edge [.int 4, .int (n : Int)] = .ok (.str (if n ≤ 400 then "" else "count")) := fun n h1 => edge_played n h1 (by decide)
  have f5 : ∀ t : Tm, t.dp ≤ 200 → callF info defs 210 f__law_leaves [t.d] = .ok (.int (t.lv : Int)) := fun t h => law_leaves t (by omega)
  have f6 : ∀ t : Tm, t.red [] → t.dp ≤ 200 → callF info defs 210 f__law_step [t.d, .tuple []] = .ok (t.step []).d := fun t h1 h2 => law_step t [] h1 (by simp) (by omega)
  rw [show callF info defs 211 f_law [.list (ns.map .int)] = _ from c_law _ _]
  generalize callF info defs 210 = F at *
  have hq : ∀ s : Str, dNe (.str s) (.str s) = some (.bool false) := fun s => dNe_self rfl (by simp [PyData.depth])
  have hqe : ∀ s : Str, dEq (.str s) (.str s) = some (.bool true) := fun s => dEq_self rfl (by simp [PyData.depth])
  obtain ⟨M, hM⟩ : ∃ M : Nat, 197 + (a0 : Int) % 7 = ((M + 1 : Nat) : Int) := ⟨196 + a0 % 7, by omega⟩
  have hM3 : M ≤ 202 := by omega
  have hM1 : ((M + 1 : Nat) : Int) - 1 = (M : Int) := by omega
  have hM2 : ((M + 1 : Nat) : Int) ≤ 200 ↔ M + 1 ≤ 200 := by omega
  generalize hMM : ((M + 1 : Nat) : Int) = MM at *
  have hrg : ∀ n : Nat, n ≤ 1000 → rngS [.int (n : Int)] = some (rngD 0 (n : Int)) := fun n h => o_rg1 _ (rsm_nat (by omega))
  refine gv_eq (gv_out ?_)
  show wp _ (exb info F b_law _)
  unfold b_law
  simp only [List.map_cons, List.cons_append, List.nil_append]
  refine wp_cons fun J hJ => ?_
  simp -implicitDefEqProofs [er]
  refine hJ _ ?_
  clear hJ J
  refine wp_cons fun J hJ => ?_
  simp -implicitDefEqProofs [e0, o_modI, hM]
  refine hJ _ ?_
  clear hJ J
  refine wp_cons fun J hJ => ?_
  simp -implicitDefEqProofs [e1, es0]
  refine hJ _ ?_
  clear hJ J
  refine wp_cons fun J hJ => ?_
  simp -implicitDefEqProofs [hM1, hrg M (by omega)]
  refine wp_forH (fun i ρ => ∃ (t : Tm) (s4 : Sl), ρ = [.dat (.list (ns.map .int)), .dat (.list (nD r)), .dat (.int MM), .dat t.d, s4, .no, .no, .no, .no, .no, .no, .no, .no] ∧ t.ok = true ∧ t.lv = i + 1 ∧ t.dp ≤ i ∧ i ≤ M) ⟨.lf s0, _, rfl, hs0, rfl, Nat.le_refl _, Nat.zero_le _⟩ ?_ ?_
  · rintro J2 hJ2 i d ρ hd ⟨t, s4, rfl, h1, h2, h3, h4⟩
    obtain ⟨hi, rfl⟩ := rng_at hd
    have hi : i < M := by omega
    obtain ⟨x, _, ex⟩ := row_at hr (i := 2 + i % 50) (by omega)
    obtain ⟨s, hs, es⟩ := el x
    have ex : L2.atI (nD r) (2 + (i : Int) % 50) = some (.int (x : Int)) := by rw [← ex]; simp
    refine ⟨_, rfl, ?_⟩
    by_cases c : (i : Int) % 2 = 0
    · simp [l_law_1, o_modI, c, ex, es]
      exact hJ2 _ _ ⟨.ap t (.lf s), _, rfl, by simp [Tm.ok] at hs ⊢; exact ⟨h1, hs⟩, by simp [Tm.lv]; omega, by simp [Tm.dp]; omega, by omega⟩
    · simp [l_law_1, o_modI, c, ex, es]
      exact hJ2 _ _ ⟨.ap (.lf s) t, _, rfl, by simp [Tm.ok] at hs ⊢; exact ⟨hs, h1⟩, by simp [Tm.lv]; omega, by simp [Tm.dp]; omega, by omega⟩
  rintro ρ ⟨t, s4, rfl, h1, h2, h3, h4⟩
  rw [rng_len] at h2 h3
  refine hJ _ ?_
  clear hJ J
  have h2 : t.lv = M + 1 := by omega
  have g0 := f0 t h1 (by omega)
  rw [h2] at g0
  obtain ⟨N2, hN2⟩ : ∃ N : Nat, 49 + (a0 : Int) % 6 = (N : Int) := ⟨49 + a0 % 6, by omega⟩
  obtain ⟨N3, hN3⟩ : ∃ N : Nat, 93 + (a3 : Int) % 10 = (N : Int) := ⟨93 + a3 % 10, by omega⟩
  obtain ⟨N4, hN4⟩ : ∃ N : Nat, 7 + (a4 : Int) % 4 = (N : Int) := ⟨7 + a4 % 4, by omega⟩
  obtain ⟨N5, hN5⟩ : ∃ N : Nat, 10 + (a5 : Int) % 5 = (N : Int) := ⟨10 + a5 % 5, by omega⟩
  obtain ⟨N6, hN6⟩ : ∃ N : Nat, 398 + (a6 : Int) % 6 = (N : Int) := ⟨398 + a6 % 6, by omega⟩
  have hmod : dMod (.int 60) (.int ((nD r).length : Int)) = some (.int 0) := by
    rw [show (nD r).length = 60 by simp [nD, hlen]]; rfl
  have hnl : (nD r).length = r.length := by simp [nD]
  rw [hnl, hlen] at hmod
  show wp _ (exb info F r_law_1 _)
  unfold r_law_1
  refine wp_cons fun J hJ => ?_
  refine wp_ite_f ?_ ?_
  · by_cases c : M + 1 ≤ 200
    · have c' := hM2.mpr c
      simp -implicitDefEqProofs [g0, c, c', hq]
    · have c' : ¬ MM ≤ 200 := fun z => c (hM2.mp z)
      simp -implicitDefEqProofs [g0, c, c', hq]
  simp -implicitDefEqProofs
  refine hJ _ ?_
  clear hJ J
  refine wp_cons fun J hJ => ?_
  simp -implicitDefEqProofs []
  refine hJ _ ?_
  clear hJ J
  refine wp_cons fun J hJ => ?_
  simp -implicitDefEqProofs [hlen, hmod, e0, o_modI, hN2, hrg N2 (by omega)]
  refine wp_forH (fun i ρ => ∃ (u : Tm) (s4 : Sl), ρ = [.dat (.list (ns.map .int)), .dat (.list (nD r)), .dat (.int MM), .dat t.d, s4, .dat u.d, .no, .no, .no, .no, .no, .no, .no] ∧ u.ok = true ∧ u.lv = i + 1 ∧ u.dp ≤ i) ⟨.lf "x", _, rfl, by decide +kernel, rfl, Nat.le_refl _⟩ ?_ ?_
  · rintro J2 hJ2 i d ρ hd ⟨u, s4, rfl, g1, g2, g3⟩
    refine ⟨_, rfl, ?_⟩
    have hy : isLeaf "y" = true := by decide +kernel
    simp [l_law_2]
    exact hJ2 _ _ ⟨.ap u (.lf "y"), _, rfl, by simp [Tm.ok, g1, hy], by simp [Tm.lv]; omega, by simp [Tm.dp]; omega⟩
  rintro ρ ⟨u, s4', rfl, u1, u2, u3⟩
  rw [rng_len] at u2 u3
  refine hJ _ ?_
  clear hJ J
  show wp _ (exb info F r_law_2 _)
  unfold r_law_2
  refine wp_cons fun J hJ => ?_
  simp -implicitDefEqProofs []
  refine hJ _ ?_
  clear hJ J
  refine wp_cons fun J hJ => ?_
  simp -implicitDefEqProofs [e3, o_modI, hN3, hrg N3 (by omega)]
  refine wp_forH (fun i ρ => ∃ (v : Tm) (s4 : Sl), ρ = [.dat (.list (ns.map .int)), .dat (.list (nD r)), .dat (.int MM), .dat t.d, s4, .dat u.d, .dat v.d, .no, .no, .no, .no, .no, .no] ∧ v.ok = true ∧ v.lv = i + 1 ∧ v.dp ≤ i) ⟨.lf "K", _, rfl, by decide +kernel, rfl, Nat.le_refl _⟩ ?_ ?_
  · rintro J2 hJ2 i d ρ hd ⟨v, s4, rfl, g1, g2, g3⟩
    refine ⟨_, rfl, ?_⟩
    have hy : isLeaf "S" = true := by decide +kernel
    simp [l_law_3]
    exact hJ2 _ _ ⟨.ap v (.lf "S"), _, rfl, by simp [Tm.ok, g1, hy], by simp [Tm.lv]; omega, by simp [Tm.dp]; omega⟩
  rintro ρ ⟨v, s5, rfl, v1, v2, v3⟩
  rw [rng_len] at v2 v3
  refine hJ _ ?_
  clear hJ J
  show wp _ (exb info F r_law_3 _)
  unfold r_law_3
  obtain ⟨T, hT⟩ : ∃ T : Tm, T = .ap (.ap (.ap (.lf "S") v) (.lf "z")) u := ⟨_, rfl⟩
  have hTd : PyData.tuple [.tuple [.tuple [.str "S", v.d], .str "z"], u.d] = T.d := by rw [hT]; rfl
  have hz : isLeaf "z" = true := by decide +kernel
  have hS : isLeaf "S" = true := by decide +kernel
  have T1 : T.ok = true := by rw [hT]; simp [Tm.ok, v1, u1, hz, hS]
  have T2 : T.lv ≤ 200 := by rw [hT]; simp [Tm.lv]; omega
  have T3 : T.dp ≤ 110 := by rw [hT]; simp [Tm.dp]; omega
  have T4 : T.red [] := by rw [hT]; exact Tm.red_nil.mpr (by simp [Tm.deed])
  have T5 := T.step_dp []
  have k1 := f1 T T1 T2 T4 (by omega)
  have k6 := f6 T T4 (by omega)
  have k5 := f5 T (by omega)
  have k7 := f5 (T.step []) (by omega)
  generalize T.step [] = W at *
  have k2 := f2 N4 (by omega) (by omega)
  have k3 := f3 N5 (by omega) (by omega)
  have k4 := f4 N6 (by omega)
  have T2' : (T.lv : Int) ≤ 200 := by omega
  have hm1 : dMul (.list [.tuple []]) (.int (N4 : Int)) = some (.list (List.replicate N4 (wD []))) := by
    show (if (0 : Int) ≤ (N4 : Int) ∧ (N4 : Int) ≤ 1000 ∧ [PyData.tuple []].length ≤ 1000 then some (PyData.list (List.replicate (N4 : Int).toNat [PyData.tuple []]).flatten) else none) = _
    rw [if_pos ⟨by omega, by omega, by simp⟩]
    simp [wD]
  have hm2 : dMul (.list [.tuple [.str "back", .tuple [.tuple [.str "K", .str "K"], .str "x"], .tuple []], .tuple [.str "on", .tuple []]]) (.int 7) = some (.list (longL.map Ln.d)) := rfl
  have hcut : cutD (longL.map Ln.d) none (some (N5 : Int)) = (longL.take N5).map Ln.d := by rw [cut_take, List.map_take]
  generalize List.replicate N4 (wD []) = RP at *
  generalize (longL.take N5).map Ln.d = LP at *
  generalize longL.map Ln.d = LL at *
  refine wp_cons fun J hJ => ?_
  simp -implicitDefEqProofs [hTd]
  refine hJ _ ?_
  clear hJ J
  refine wp_cons fun J hJ => ?_
  simp -implicitDefEqProofs [k6, k7]
  refine hJ _ ?_
  clear hJ J
  refine wp_cons fun J hJ => ?_
  refine wp_ite_f ?_ ?_
  · by_cases c : W.lv ≤ 200
    · have c' : (W.lv : Int) ≤ 200 := by omega
      simp -implicitDefEqProofs [k5, T2, T2', k1, c, c', hq]
    · have c' : ¬ (W.lv : Int) ≤ 200 := by omega
      simp -implicitDefEqProofs [k5, T2, T2', k1, c, c', hq]
  simp -implicitDefEqProofs
  refine hJ _ ?_
  clear hJ J
  refine wp_cons fun J hJ => ?_
  simp -implicitDefEqProofs [e4, o_modI, hN4]
  refine hJ _ ?_
  clear hJ J
  refine wp_cons fun J hJ => ?_
  refine wp_ite_f ?_ ?_
  · by_cases c : N4 ≤ 8
    · have c' : (N4 : Int) ≤ 8 := by omega
      simp -implicitDefEqProofs [hm1, k2, c, c', hq]
    · have c' : ¬ (N4 : Int) ≤ 8 := by omega
      simp -implicitDefEqProofs [hm1, k2, c, c', hq]
  simp -implicitDefEqProofs
  refine hJ _ ?_
  clear hJ J
  refine wp_cons fun J hJ => ?_
  simp -implicitDefEqProofs [e5, o_modI, hN5]
  refine hJ _ ?_
  clear hJ J
  refine wp_cons fun J hJ => ?_
  simp -implicitDefEqProofs [hm2]
  refine hJ _ ?_
  clear hJ J
  refine wp_cons fun J hJ => ?_
  refine wp_ite_f ?_ ?_
  · by_cases c : N5 ≤ 12
    · have c' : (N5 : Int) ≤ 12 := by omega
      simp -implicitDefEqProofs [hcut, k3, c, c', hq]
    · have c' : ¬ (N5 : Int) ≤ 12 := by omega
      simp -implicitDefEqProofs [hcut, k3, c, c', hq]
  simp -implicitDefEqProofs
  refine hJ _ ?_
  clear hJ J
  refine wp_cons fun J hJ => ?_
  simp -implicitDefEqProofs [e6, o_modI, hN6]
  refine hJ _ ?_
  clear hJ J
  by_cases c : N6 ≤ 400
  · have c' : (N6 : Int) ≤ 400 := by omega
    refine wp_cons fun J hJ => ?_
    simp -implicitDefEqProofs [k4, c, c', hqe]
  · have c' : ¬ (N6 : Int) ≤ 400 := by omega
    refine wp_cons fun J hJ => ?_
    simp -implicitDefEqProofs [k4, c, c', hqe]
end K30

namespace K30
open PySem PySem.Spec PyProof.Rows L2 CH
theorem w0 {K : PySem.W.Frag} {h : Heap} {mg : Str → Option Value} (X : K.In h) (G : h.Ns mainGlobals mg) {f : Addr} {oc : Value} {od an : Option Addr} {osl : Array (Option Value)} {kV doc pm cdv ct : Value}
    (a : PySem.W.nsIn K mainGlobals "is_within" = some (some (.ref f))) (l : K.lookup f = some ⟨oc, od, .func (PySem.W.fnOf "is_within" "is_within" (defArgs s0) (defBody s0) (defScope s0) .none kV doc pm an cdv ct), osl⟩) (c : PySem.W.codeIn K cdv "is_within" = true) (k : PySem.W.keepIn K (.ref f) = true) : DefT info d0 ∧ ∃ f fd, DefW K mg d0 f fd :=
  ⟨t0, f, _, DefW.plain (PySem.W.mg_of X G a) l c k fun us hl => match us, hl with | [_, _, _], _ => rfl⟩
theorem w1 {K : PySem.W.Frag} {h : Heap} {mg : Str → Option Value} (X : K.In h) (G : h.Ns mainGlobals mg) {f : Addr} {oc : Value} {od an : Option Addr} {osl : Array (Option Value)} {kV doc pm cdv ct : Value}
    (a : PySem.W.nsIn K mainGlobals "is_name" = some (some (.ref f))) (l : K.lookup f = some ⟨oc, od, .func (PySem.W.fnOf "is_name" "is_name" (defArgs s1) (defBody s1) (defScope s1) .none kV doc pm an cdv ct), osl⟩) (c : PySem.W.codeIn K cdv "is_name" = true) (k : PySem.W.keepIn K (.ref f) = true) : DefT info d1 ∧ ∃ f fd, DefW K mg d1 f fd :=
  ⟨t1, f, _, DefW.plain (PySem.W.mg_of X G a) l c k fun us hl => match us, hl with | [_], _ => rfl⟩
theorem w2 {K : PySem.W.Frag} {h : Heap} {mg : Str → Option Value} (X : K.In h) (G : h.Ns mainGlobals mg) {f : Addr} {oc : Value} {od an : Option Addr} {osl : Array (Option Value)} {kV doc pm cdv ct : Value}
    (a : PySem.W.nsIn K mainGlobals "is_leaf" = some (some (.ref f))) (l : K.lookup f = some ⟨oc, od, .func (PySem.W.fnOf "is_leaf" "is_leaf" (defArgs s2) (defBody s2) (defScope s2) .none kV doc pm an cdv ct), osl⟩) (c : PySem.W.codeIn K cdv "is_leaf" = true) (k : PySem.W.keepIn K (.ref f) = true) : DefT info d2 ∧ ∃ f fd, DefW K mg d2 f fd :=
  ⟨t2, f, _, DefW.plain (PySem.W.mg_of X G a) l c k fun us hl => match us, hl with | [_], _ => rfl⟩
theorem w3 {K : PySem.W.Frag} {h : Heap} {mg : Str → Option Value} (X : K.In h) (G : h.Ns mainGlobals mg) {f : Addr} {oc : Value} {od an : Option Addr} {osl : Array (Option Value)} {kV doc pm cdv ct : Value}
    (a : PySem.W.nsIn K mainGlobals "left_of" = some (some (.ref f))) (l : K.lookup f = some ⟨oc, od, .func (PySem.W.fnOf "left_of" "left_of" (defArgs s3) (defBody s3) (defScope s3) .none kV doc pm an cdv ct), osl⟩) (c : PySem.W.codeIn K cdv "left_of" = true) (k : PySem.W.keepIn K (.ref f) = true) : DefT info d3 ∧ ∃ f fd, DefW K mg d3 f fd :=
  ⟨t3, f, _, DefW.plain (PySem.W.mg_of X G a) l c k fun us hl => match us, hl with | [_, _], _ => rfl⟩
theorem w4 {K : PySem.W.Frag} {h : Heap} {mg : Str → Option Value} (X : K.In h) (G : h.Ns mainGlobals mg) {f : Addr} {oc : Value} {od an : Option Addr} {osl : Array (Option Value)} {kV doc pm cdv ct : Value}
    (a : PySem.W.nsIn K mainGlobals "is_term" = some (some (.ref f))) (l : K.lookup f = some ⟨oc, od, .func (PySem.W.fnOf "is_term" "is_term" (defArgs s4) (defBody s4) (defScope s4) .none kV doc pm an cdv ct), osl⟩) (c : PySem.W.codeIn K cdv "is_term" = true) (k : PySem.W.keepIn K (.ref f) = true) : DefT info d4 ∧ ∃ f fd, DefW K mg d4 f fd :=
  ⟨t4, f, _, DefW.plain (PySem.W.mg_of X G a) l c k fun us hl => match us, hl with | [_], _ => rfl⟩
theorem w5 {K : PySem.W.Frag} {h : Heap} {mg : Str → Option Value} (X : K.In h) (G : h.Ns mainGlobals mg) {f : Addr} {oc : Value} {od an : Option Addr} {osl : Array (Option Value)} {kV doc pm cdv ct : Value}
    (a : PySem.W.nsIn K mainGlobals "checked" = some (some (.ref f))) (l : K.lookup f = some ⟨oc, od, .func (PySem.W.fnOf "checked" "checked" (defArgs s5) (defBody s5) (defScope s5) .none kV doc pm an cdv ct), osl⟩) (c : PySem.W.codeIn K cdv "checked" = true) (k : PySem.W.keepIn K (.ref f) = true) : DefT info d5 ∧ ∃ f fd, DefW K mg d5 f fd :=
  ⟨t5, f, _, DefW.plain (PySem.W.mg_of X G a) l c k fun us hl => match us, hl with | [_], _ => rfl⟩
theorem w6 {K : PySem.W.Frag} {h : Heap} {mg : Str → Option Value} (X : K.In h) (G : h.Ns mainGlobals mg) {f : Addr} {oc : Value} {od an : Option Addr} {osl : Array (Option Value)} {kV doc pm cdv ct : Value}
    (a : PySem.W.nsIn K mainGlobals "looked" = some (some (.ref f))) (l : K.lookup f = some ⟨oc, od, .func (PySem.W.fnOf "looked" "looked" (defArgs s6) (defBody s6) (defScope s6) .none kV doc pm an cdv ct), osl⟩) (c : PySem.W.codeIn K cdv "looked" = true) (k : PySem.W.keepIn K (.ref f) = true) : DefT info d6 ∧ ∃ f fd, DefW K mg d6 f fd :=
  ⟨t6, f, _, DefW.plain (PySem.W.mg_of X G a) l c k fun us hl => match us, hl with | [_], _ => rfl⟩
theorem w7 {K : PySem.W.Frag} {h : Heap} {mg : Str → Option Value} (X : K.In h) (G : h.Ns mainGlobals mg) {f : Addr} {oc : Value} {od an : Option Addr} {osl : Array (Option Value)} {kV doc pm cdv ct : Value}
    (a : PySem.W.nsIn K mainGlobals "leaves" = some (some (.ref f))) (l : K.lookup f = some ⟨oc, od, .func (PySem.W.fnOf "leaves" "leaves" (defArgs s7) (defBody s7) (defScope s7) .none kV doc pm an cdv ct), osl⟩) (c : PySem.W.codeIn K cdv "leaves" = true) (k : PySem.W.keepIn K (.ref f) = true) : DefT info d7 ∧ ∃ f fd, DefW K mg d7 f fd :=
  ⟨t7, f, _, DefW.plain (PySem.W.mg_of X G a) l c k fun us hl => match us, hl with | [_], _ => rfl⟩
theorem w8 {K : PySem.W.Frag} {h : Heap} {mg : Str → Option Value} (X : K.In h) (G : h.Ns mainGlobals mg) {f : Addr} {oc : Value} {od an : Option Addr} {osl : Array (Option Value)} {kV doc pm cdv ct : Value}
    (a : PySem.W.nsIn K mainGlobals "deed_of" = some (some (.ref f))) (l : K.lookup f = some ⟨oc, od, .func (PySem.W.fnOf "deed_of" "deed_of" (defArgs s8) (defBody s8) (defScope s8) .none kV doc pm an cdv ct), osl⟩) (c : PySem.W.codeIn K cdv "deed_of" = true) (k : PySem.W.keepIn K (.ref f) = true) : DefT info d8 ∧ ∃ f fd, DefW K mg d8 f fd :=
  ⟨t8, f, _, DefW.plain (PySem.W.mg_of X G a) l c k fun us hl => match us, hl with | [_], _ => rfl⟩
theorem w9 {K : PySem.W.Frag} {h : Heap} {mg : Str → Option Value} (X : K.In h) (G : h.Ns mainGlobals mg) {f : Addr} {oc : Value} {od an : Option Addr} {osl : Array (Option Value)} {kV doc pm cdv ct : Value}
    (a : PySem.W.nsIn K mainGlobals "done" = some (some (.ref f))) (l : K.lookup f = some ⟨oc, od, .func (PySem.W.fnOf "done" "done" (defArgs s9) (defBody s9) (defScope s9) .none kV doc pm an cdv ct), osl⟩) (c : PySem.W.codeIn K cdv "done" = true) (k : PySem.W.keepIn K (.ref f) = true) : DefT info d9 ∧ ∃ f fd, DefW K mg d9 f fd :=
  ⟨t9, f, _, DefW.plain (PySem.W.mg_of X G a) l c k fun us hl => match us, hl with | [_], _ => rfl⟩
theorem w10 {K : PySem.W.Frag} {h : Heap} {mg : Str → Option Value} (X : K.In h) (G : h.Ns mainGlobals mg) {f : Addr} {oc : Value} {od an : Option Addr} {osl : Array (Option Value)} {kV doc pm cdv ct : Value}
    (a : PySem.W.nsIn K mainGlobals "ways_of" = some (some (.ref f))) (l : K.lookup f = some ⟨oc, od, .func (PySem.W.fnOf "ways_of" "ways_of" (defArgs s10) (defBody s10) (defScope s10) .none kV doc pm an cdv ct), osl⟩) (c : PySem.W.codeIn K cdv "ways_of" = true) (k : PySem.W.keepIn K (.ref f) = true) : DefT info d10 ∧ ∃ f fd, DefW K mg d10 f fd :=
  ⟨t10, f, _, DefW.plain (PySem.W.mg_of X G a) l c k fun us hl => match us, hl with | [_], _ => rfl⟩
theorem w11 {K : PySem.W.Frag} {h : Heap} {mg : Str → Option Value} (X : K.In h) (G : h.Ns mainGlobals mg) {f : Addr} {oc : Value} {od an : Option Addr} {osl : Array (Option Value)} {kV doc pm cdv ct : Value}
    (a : PySem.W.nsIn K mainGlobals "part_at" = some (some (.ref f))) (l : K.lookup f = some ⟨oc, od, .func (PySem.W.fnOf "part_at" "part_at" (defArgs s11) (defBody s11) (defScope s11) .none kV doc pm an cdv ct), osl⟩) (c : PySem.W.codeIn K cdv "part_at" = true) (k : PySem.W.keepIn K (.ref f) = true) : DefT info d11 ∧ ∃ f fd, DefW K mg d11 f fd :=
  ⟨t11, f, _, DefW.plain (PySem.W.mg_of X G a) l c k fun us hl => match us, hl with | [_, _], _ => rfl⟩
theorem w12 {K : PySem.W.Frag} {h : Heap} {mg : Str → Option Value} (X : K.In h) (G : h.Ns mainGlobals mg) {f : Addr} {oc : Value} {od an : Option Addr} {osl : Array (Option Value)} {kV doc pm cdv ct : Value}
    (a : PySem.W.nsIn K mainGlobals "with_part" = some (some (.ref f))) (l : K.lookup f = some ⟨oc, od, .func (PySem.W.fnOf "with_part" "with_part" (defArgs s12) (defBody s12) (defScope s12) .none kV doc pm an cdv ct), osl⟩) (c : PySem.W.codeIn K cdv "with_part" = true) (k : PySem.W.keepIn K (.ref f) = true) : DefT info d12 ∧ ∃ f fd, DefW K mg d12 f fd :=
  ⟨t12, f, _, DefW.plain (PySem.W.mg_of X G a) l c k fun us hl => match us, hl with | [_, _, _], _ => rfl⟩
theorem w13 {K : PySem.W.Frag} {h : Heap} {mg : Str → Option Value} (X : K.In h) (G : h.Ns mainGlobals mg) {f : Addr} {oc : Value} {od an : Option Addr} {osl : Array (Option Value)} {kV doc pm cdv ct : Value}
    (a : PySem.W.nsIn K mainGlobals "look_way" = some (some (.ref f))) (l : K.lookup f = some ⟨oc, od, .func (PySem.W.fnOf "look_way" "look_way" (defArgs s13) (defBody s13) (defScope s13) .none kV doc pm an cdv ct), osl⟩) (c : PySem.W.codeIn K cdv "look_way" = true) (k : PySem.W.keepIn K (.ref f) = true) : DefT info d13 ∧ ∃ f fd, DefW K mg d13 f fd :=
  ⟨t13, f, _, DefW.plain (PySem.W.mg_of X G a) l c k fun us hl => match us, hl with | [_, _], _ => rfl⟩
theorem w14 {K : PySem.W.Frag} {h : Heap} {mg : Str → Option Value} (X : K.In h) (G : h.Ns mainGlobals mg) {f : Addr} {oc : Value} {od an : Option Addr} {osl : Array (Option Value)} {kV doc pm cdv ct : Value}
    (a : PySem.W.nsIn K mainGlobals "step_to" = some (some (.ref f))) (l : K.lookup f = some ⟨oc, od, .func (PySem.W.fnOf "step_to" "step_to" (defArgs s14) (defBody s14) (defScope s14) .none kV doc pm an cdv ct), osl⟩) (c : PySem.W.codeIn K cdv "step_to" = true) (k : PySem.W.keepIn K (.ref f) = true) : DefT info d14 ∧ ∃ f fd, DefW K mg d14 f fd :=
  ⟨t14, f, _, DefW.plain (PySem.W.mg_of X G a) l c k fun us hl => match us, hl with | [_, _], _ => rfl⟩
theorem w15 {K : PySem.W.Frag} {h : Heap} {mg : Str → Option Value} (X : K.In h) (G : h.Ns mainGlobals mg) {f : Addr} {oc : Value} {od an : Option Addr} {osl : Array (Option Value)} {kV doc pm cdv ct : Value}
    (a : PySem.W.nsIn K mainGlobals "stepped" = some (some (.ref f))) (l : K.lookup f = some ⟨oc, od, .func (PySem.W.fnOf "stepped" "stepped" (defArgs s15) (defBody s15) (defScope s15) .none kV doc pm an cdv ct), osl⟩) (c : PySem.W.codeIn K cdv "stepped" = true) (k : PySem.W.keepIn K (.ref f) = true) : DefT info d15 ∧ ∃ f fd, DefW K mg d15 f fd :=
  ⟨t15, f, _, DefW.plain (PySem.W.mg_of X G a) l c k fun us hl => match us, hl with | [_, _], _ => rfl⟩
theorem w16 {K : PySem.W.Frag} {h : Heap} {mg : Str → Option Value} (X : K.In h) (G : h.Ns mainGlobals mg) {f : Addr} {oc : Value} {od an : Option Addr} {osl : Array (Option Value)} {kV doc pm cdv ct : Value}
    (a : PySem.W.nsIn K mainGlobals "led" = some (some (.ref f))) (l : K.lookup f = some ⟨oc, od, .func (PySem.W.fnOf "led" "led" (defArgs s16) (defBody s16) (defScope s16) .none kV doc pm an cdv ct), osl⟩) (c : PySem.W.codeIn K cdv "led" = true) (k : PySem.W.keepIn K (.ref f) = true) : DefT info d16 ∧ ∃ f fd, DefW K mg d16 f fd :=
  ⟨t16, f, _, DefW.plain (PySem.W.mg_of X G a) l c k fun us hl => match us, hl with | [_, _], _ => rfl⟩
theorem w17 {K : PySem.W.Frag} {h : Heap} {mg : Str → Option Value} (X : K.In h) (G : h.Ns mainGlobals mg) {f T : Addr} {oc oc2 : Value} {od od2 an : Option Addr} {osl osl2 : Array (Option Value)} {kV doc pm cdv ct : Value} {tk : Tok} {m : Nat}
    (a : PySem.W.nsIn K mainGlobals "played" = some (some (.ref f))) (l : K.lookup f = some ⟨oc, od, .func (PySem.W.fnOf "played" "played" (defArgs s17) (defBody s17) (defScope s17) (.ref T) kV doc pm an cdv ct), osl⟩) (c : PySem.W.codeIn K cdv "played" = true) (k : PySem.W.keepIn K (.ref f) = true) (lT : K.lookup T = some ⟨oc2, od2, .seq [.int 50 tk].toArray m, osl2⟩) : DefT info d17 ∧ ∃ f fd, DefW K mg d17 f fd :=
  ⟨t17, f, _, DefW.one (PySem.W.mg_of X G a) l c k lT rfl (v := .int 50) ⟨tk, rfl⟩ (.int _) (by decide) (fun n j hj T kV doc pm an cdv ct us its h1 h2 => by
    rcases hj with ⟨rfl, rfl⟩ | ⟨e, rfl⟩
    · match us, its, h1, h2 with | [_, _], [_], _, _ => exact ⟨_, rfl, rfl⟩
    · match us, its, h1.trans (Nat.succ.inj (e.trans (rfl : _ = 1 + 1))), h2 with | [_], [_], _, _ => exact ⟨_, rfl, rfl⟩) fun T kV doc pm an cdv ct us its ws h1 h2 h3 => by match us, its, ws, Nat.succ.inj (h1.trans (rfl : _ = 1 + 1)), h2, h3 with | [_], [_], [_], _, _, _ => exact ⟨_, rfl, rfl⟩⟩
theorem w18 {K : PySem.W.Frag} {h : Heap} {mg : Str → Option Value} (X : K.In h) (G : h.Ns mainGlobals mg) {f : Addr} {oc : Value} {od an : Option Addr} {osl : Array (Option Value)} {kV doc pm cdv ct : Value}
    (a : PySem.W.nsIn K mainGlobals "below" = some (some (.ref f))) (l : K.lookup f = some ⟨oc, od, .func (PySem.W.fnOf "below" "below" (defArgs s18) (defBody s18) (defScope s18) .none kV doc pm an cdv ct), osl⟩) (c : PySem.W.codeIn K cdv "below" = true) (k : PySem.W.keepIn K (.ref f) = true) : DefT info d18 ∧ ∃ f fd, DefW K mg d18 f fd :=
  ⟨t18, f, _, DefW.plain (PySem.W.mg_of X G a) l c k fun us hl => match us, hl with | [_, _], _ => rfl⟩
theorem w19 {K : PySem.W.Frag} {h : Heap} {mg : Str → Option Value} (X : K.In h) (G : h.Ns mainGlobals mg) {f : Addr} {oc : Value} {od an : Option Addr} {osl : Array (Option Value)} {kV doc pm cdv ct : Value}
    (a : PySem.W.nsIn K mainGlobals "look_ways" = some (some (.ref f))) (l : K.lookup f = some ⟨oc, od, .func (PySem.W.fnOf "look_ways" "look_ways" (defArgs s19) (defBody s19) (defScope s19) .none kV doc pm an cdv ct), osl⟩) (c : PySem.W.codeIn K cdv "look_ways" = true) (k : PySem.W.keepIn K (.ref f) = true) : DefT info d19 ∧ ∃ f fd, DefW K mg d19 f fd :=
  ⟨t19, f, _, DefW.plain (PySem.W.mg_of X G a) l c k fun us hl => match us, hl with | [_, _], _ => rfl⟩
theorem w20 {K : PySem.W.Frag} {h : Heap} {mg : Str → Option Value} (X : K.In h) (G : h.Ns mainGlobals mg) {f : Addr} {oc : Value} {od an : Option Addr} {osl : Array (Option Value)} {kV doc pm cdv ct : Value}
    (a : PySem.W.nsIn K mainGlobals "all_done" = some (some (.ref f))) (l : K.lookup f = some ⟨oc, od, .func (PySem.W.fnOf "all_done" "all_done" (defArgs s20) (defBody s20) (defScope s20) .none kV doc pm an cdv ct), osl⟩) (c : PySem.W.codeIn K cdv "all_done" = true) (k : PySem.W.keepIn K (.ref f) = true) : DefT info d20 ∧ ∃ f fd, DefW K mg d20 f fd :=
  ⟨t20, f, _, DefW.plain (PySem.W.mg_of X G a) l c k fun us hl => match us, hl with | [_, _], _ => rfl⟩
theorem w21 {K : PySem.W.Frag} {h : Heap} {mg : Str → Option Value} (X : K.In h) (G : h.Ns mainGlobals mg) {f : Addr} {oc : Value} {od an : Option Addr} {osl : Array (Option Value)} {kV doc pm cdv ct : Value}
    (a : PySem.W.nsIn K mainGlobals "moved" = some (some (.ref f))) (l : K.lookup f = some ⟨oc, od, .func (PySem.W.fnOf "moved" "moved" (defArgs s21) (defBody s21) (defScope s21) .none kV doc pm an cdv ct), osl⟩) (c : PySem.W.codeIn K cdv "moved" = true) (k : PySem.W.keepIn K (.ref f) = true) : DefT info d21 ∧ ∃ f fd, DefW K mg d21 f fd :=
  ⟨t21, f, _, DefW.plain (PySem.W.mg_of X G a) l c k fun us hl => match us, hl with | [_, _], _ => rfl⟩
theorem w22 {K : PySem.W.Frag} {h : Heap} {mg : Str → Option Value} (X : K.In h) (G : h.Ns mainGlobals mg) {f : Addr} {oc : Value} {od an : Option Addr} {osl : Array (Option Value)} {kV doc pm cdv ct : Value}
    (a : PySem.W.nsIn K mainGlobals "left" = some (some (.ref f))) (l : K.lookup f = some ⟨oc, od, .func (PySem.W.fnOf "left" "left" (defArgs s22) (defBody s22) (defScope s22) .none kV doc pm an cdv ct), osl⟩) (c : PySem.W.codeIn K cdv "left" = true) (k : PySem.W.keepIn K (.ref f) = true) : DefT info d22 ∧ ∃ f fd, DefW K mg d22 f fd :=
  ⟨t22, f, _, DefW.plain (PySem.W.mg_of X G a) l c k fun us hl => match us, hl with | [_, _, _], _ => rfl⟩
theorem w23 {K : PySem.W.Frag} {h : Heap} {mg : Str → Option Value} (X : K.In h) (G : h.Ns mainGlobals mg) {f : Addr} {oc : Value} {od an : Option Addr} {osl : Array (Option Value)} {kV doc pm cdv ct : Value}
    (a : PySem.W.nsIn K mainGlobals "walked" = some (some (.ref f))) (l : K.lookup f = some ⟨oc, od, .func (PySem.W.fnOf "walked" "walked" (defArgs s23) (defBody s23) (defScope s23) .none kV doc pm an cdv ct), osl⟩) (c : PySem.W.codeIn K cdv "walked" = true) (k : PySem.W.keepIn K (.ref f) = true) : DefT info d23 ∧ ∃ f fd, DefW K mg d23 f fd :=
  ⟨t23, f, _, DefW.plain (PySem.W.mg_of X G a) l c k fun us hl => match us, hl with | [_, _], _ => rfl⟩
theorem w24 {K : PySem.W.Frag} {h : Heap} {mg : Str → Option Value} (X : K.In h) (G : h.Ns mainGlobals mg) {f : Addr} {oc : Value} {od an : Option Addr} {osl : Array (Option Value)} {kV doc pm cdv ct : Value}
    (a : PySem.W.nsIn K mainGlobals "woven" = some (some (.ref f))) (l : K.lookup f = some ⟨oc, od, .func (PySem.W.fnOf "woven" "woven" (defArgs s24) (defBody s24) (defScope s24) .none kV doc pm an cdv ct), osl⟩) (c : PySem.W.codeIn K cdv "woven" = true) (k : PySem.W.keepIn K (.ref f) = true) : DefT info d24 ∧ ∃ f fd, DefW K mg d24 f fd :=
  ⟨t24, f, _, DefW.plain (PySem.W.mg_of X G a) l c k fun us hl => match us, hl with | [_, _, _], _ => rfl⟩
theorem w25 {K : PySem.W.Frag} {h : Heap} {mg : Str → Option Value} (X : K.In h) (G : h.Ns mainGlobals mg) {f : Addr} {oc : Value} {od an : Option Addr} {osl : Array (Option Value)} {kV doc pm cdv ct : Value}
    (a : PySem.W.nsIn K mainGlobals "meet" = some (some (.ref f))) (l : K.lookup f = some ⟨oc, od, .func (PySem.W.fnOf "meet" "meet" (defArgs s25) (defBody s25) (defScope s25) .none kV doc pm an cdv ct), osl⟩) (c : PySem.W.codeIn K cdv "meet" = true) (k : PySem.W.keepIn K (.ref f) = true) : DefT info d25 ∧ ∃ f fd, DefW K mg d25 f fd :=
  ⟨t25, f, _, DefW.plain (PySem.W.mg_of X G a) l c k fun us hl => match us, hl with | [_, _, _], _ => rfl⟩
theorem w26 {K : PySem.W.Frag} {h : Heap} {mg : Str → Option Value} (X : K.In h) (G : h.Ns mainGlobals mg) {f : Addr} {oc : Value} {od an : Option Addr} {osl : Array (Option Value)} {kV doc pm cdv ct : Value}
    (a : PySem.W.nsIn K mainGlobals "line_to" = some (some (.ref f))) (l : K.lookup f = some ⟨oc, od, .func (PySem.W.fnOf "line_to" "line_to" (defArgs s26) (defBody s26) (defScope s26) .none kV doc pm an cdv ct), osl⟩) (c : PySem.W.codeIn K cdv "line_to" = true) (k : PySem.W.keepIn K (.ref f) = true) : DefT info d26 ∧ ∃ f fd, DefW K mg d26 f fd :=
  ⟨t26, f, _, DefW.plain (PySem.W.mg_of X G a) l c k fun us hl => match us, hl with | [_, _], _ => rfl⟩
theorem w27 {K : PySem.W.Frag} {h : Heap} {mg : Str → Option Value} (X : K.In h) (G : h.Ns mainGlobals mg) {f : Addr} {oc : Value} {od an : Option Addr} {osl : Array (Option Value)} {kV doc pm cdv ct : Value}
    (a : PySem.W.nsIn K mainGlobals "after" = some (some (.ref f))) (l : K.lookup f = some ⟨oc, od, .func (PySem.W.fnOf "after" "after" (defArgs s27) (defBody s27) (defScope s27) .none kV doc pm an cdv ct), osl⟩) (c : PySem.W.codeIn K cdv "after" = true) (k : PySem.W.keepIn K (.ref f) = true) : DefT info d27 ∧ ∃ f fd, DefW K mg d27 f fd :=
  ⟨t27, f, _, DefW.plain (PySem.W.mg_of X G a) l c k fun us hl => match us, hl with | [_, _], _ => rfl⟩
theorem w28 {K : PySem.W.Frag} {h : Heap} {mg : Str → Option Value} (X : K.In h) (G : h.Ns mainGlobals mg) {f : Addr} {oc : Value} {od an : Option Addr} {osl : Array (Option Value)} {kV doc pm cdv ct : Value}
    (a : PySem.W.nsIn K mainGlobals "end_of" = some (some (.ref f))) (l : K.lookup f = some ⟨oc, od, .func (PySem.W.fnOf "end_of" "end_of" (defArgs s28) (defBody s28) (defScope s28) .none kV doc pm an cdv ct), osl⟩) (c : PySem.W.codeIn K cdv "end_of" = true) (k : PySem.W.keepIn K (.ref f) = true) : DefT info d28 ∧ ∃ f fd, DefW K mg d28 f fd :=
  ⟨t28, f, _, DefW.plain (PySem.W.mg_of X G a) l c k fun us hl => match us, hl with | [_, _], _ => rfl⟩
theorem w29 {K : PySem.W.Frag} {h : Heap} {mg : Str → Option Value} (X : K.In h) (G : h.Ns mainGlobals mg) {f : Addr} {oc : Value} {od an : Option Addr} {osl : Array (Option Value)} {kV doc pm cdv ct : Value}
    (a : PySem.W.nsIn K mainGlobals "led_by" = some (some (.ref f))) (l : K.lookup f = some ⟨oc, od, .func (PySem.W.fnOf "led_by" "led_by" (defArgs s29) (defBody s29) (defScope s29) .none kV doc pm an cdv ct), osl⟩) (c : PySem.W.codeIn K cdv "led_by" = true) (k : PySem.W.keepIn K (.ref f) = true) : DefT info d29 ∧ ∃ f fd, DefW K mg d29 f fd :=
  ⟨t29, f, _, DefW.plain (PySem.W.mg_of X G a) l c k fun us hl => match us, hl with | [_, _], _ => rfl⟩
theorem w30 {K : PySem.W.Frag} {h : Heap} {mg : Str → Option Value} (X : K.In h) (G : h.Ns mainGlobals mg) {f : Addr} {oc : Value} {od an : Option Addr} {osl : Array (Option Value)} {kV doc pm cdv ct : Value}
    (a : PySem.W.nsIn K mainGlobals "_law_cell" = some (some (.ref f))) (l : K.lookup f = some ⟨oc, od, .func (PySem.W.fnOf "_law_cell" "_law_cell" (defArgs s30) (defBody s30) (defScope s30) .none kV doc pm an cdv ct), osl⟩) (c : PySem.W.codeIn K cdv "_law_cell" = true) (k : PySem.W.keepIn K (.ref f) = true) : DefT info d30 ∧ ∃ f fd, DefW K mg d30 f fd :=
  ⟨t30, f, _, DefW.plain (PySem.W.mg_of X G a) l c k fun us hl => match us, hl with | [_, _], _ => rfl⟩
theorem w31 {K : PySem.W.Frag} {h : Heap} {mg : Str → Option Value} (X : K.In h) (G : h.Ns mainGlobals mg) {f : Addr} {oc : Value} {od an : Option Addr} {osl : Array (Option Value)} {kV doc pm cdv ct : Value}
    (a : PySem.W.nsIn K mainGlobals "_law_row" = some (some (.ref f))) (l : K.lookup f = some ⟨oc, od, .func (PySem.W.fnOf "_law_row" "_law_row" (defArgs s31) (defBody s31) (defScope s31) .none kV doc pm an cdv ct), osl⟩) (c : PySem.W.codeIn K cdv "_law_row" = true) (k : PySem.W.keepIn K (.ref f) = true) : DefT info d31 ∧ ∃ f fd, DefW K mg d31 f fd :=
  ⟨t31, f, _, DefW.plain (PySem.W.mg_of X G a) l c k fun us hl => match us, hl with | [_, _], _ => rfl⟩
theorem w32 {K : PySem.W.Frag} {h : Heap} {mg : Str → Option Value} (X : K.In h) (G : h.Ns mainGlobals mg) {f : Addr} {oc : Value} {od an : Option Addr} {osl : Array (Option Value)} {kV doc pm cdv ct : Value}
    (a : PySem.W.nsIn K mainGlobals "_law_name" = some (some (.ref f))) (l : K.lookup f = some ⟨oc, od, .func (PySem.W.fnOf "_law_name" "_law_name" (defArgs s32) (defBody s32) (defScope s32) .none kV doc pm an cdv ct), osl⟩) (c : PySem.W.codeIn K cdv "_law_name" = true) (k : PySem.W.keepIn K (.ref f) = true) : DefT info d32 ∧ ∃ f fd, DefW K mg d32 f fd :=
  ⟨t32, f, _, DefW.plain (PySem.W.mg_of X G a) l c k fun us hl => match us, hl with | [_], _ => rfl⟩
theorem w33 {K : PySem.W.Frag} {h : Heap} {mg : Str → Option Value} (X : K.In h) (G : h.Ns mainGlobals mg) {f : Addr} {oc : Value} {od an : Option Addr} {osl : Array (Option Value)} {kV doc pm cdv ct : Value}
    (a : PySem.W.nsIn K mainGlobals "_law_leaf" = some (some (.ref f))) (l : K.lookup f = some ⟨oc, od, .func (PySem.W.fnOf "_law_leaf" "_law_leaf" (defArgs s33) (defBody s33) (defScope s33) .none kV doc pm an cdv ct), osl⟩) (c : PySem.W.codeIn K cdv "_law_leaf" = true) (k : PySem.W.keepIn K (.ref f) = true) : DefT info d33 ∧ ∃ f fd, DefW K mg d33 f fd :=
  ⟨t33, f, _, DefW.plain (PySem.W.mg_of X G a) l c k fun us hl => match us, hl with | [_], _ => rfl⟩
theorem w34 {K : PySem.W.Frag} {h : Heap} {mg : Str → Option Value} (X : K.In h) (G : h.Ns mainGlobals mg) {f : Addr} {oc : Value} {od an : Option Addr} {osl : Array (Option Value)} {kV doc pm cdv ct : Value}
    (a : PySem.W.nsIn K mainGlobals "_law_leaves" = some (some (.ref f))) (l : K.lookup f = some ⟨oc, od, .func (PySem.W.fnOf "_law_leaves" "_law_leaves" (defArgs s34) (defBody s34) (defScope s34) .none kV doc pm an cdv ct), osl⟩) (c : PySem.W.codeIn K cdv "_law_leaves" = true) (k : PySem.W.keepIn K (.ref f) = true) : DefT info d34 ∧ ∃ f fd, DefW K mg d34 f fd :=
  ⟨t34, f, _, DefW.plain (PySem.W.mg_of X G a) l c k fun us hl => match us, hl with | [_], _ => rfl⟩
theorem w35 {K : PySem.W.Frag} {h : Heap} {mg : Str → Option Value} (X : K.In h) (G : h.Ns mainGlobals mg) {f : Addr} {oc : Value} {od an : Option Addr} {osl : Array (Option Value)} {kV doc pm cdv ct : Value}
    (a : PySem.W.nsIn K mainGlobals "_law_part" = some (some (.ref f))) (l : K.lookup f = some ⟨oc, od, .func (PySem.W.fnOf "_law_part" "_law_part" (defArgs s35) (defBody s35) (defScope s35) .none kV doc pm an cdv ct), osl⟩) (c : PySem.W.codeIn K cdv "_law_part" = true) (k : PySem.W.keepIn K (.ref f) = true) : DefT info d35 ∧ ∃ f fd, DefW K mg d35 f fd :=
  ⟨t35, f, _, DefW.plain (PySem.W.mg_of X G a) l c k fun us hl => match us, hl with | [_, _], _ => rfl⟩
theorem w36 {K : PySem.W.Frag} {h : Heap} {mg : Str → Option Value} (X : K.In h) (G : h.Ns mainGlobals mg) {f : Addr} {oc : Value} {od an : Option Addr} {osl : Array (Option Value)} {kV doc pm cdv ct : Value}
    (a : PySem.W.nsIn K mainGlobals "_law_with" = some (some (.ref f))) (l : K.lookup f = some ⟨oc, od, .func (PySem.W.fnOf "_law_with" "_law_with" (defArgs s36) (defBody s36) (defScope s36) .none kV doc pm an cdv ct), osl⟩) (c : PySem.W.codeIn K cdv "_law_with" = true) (k : PySem.W.keepIn K (.ref f) = true) : DefT info d36 ∧ ∃ f fd, DefW K mg d36 f fd :=
  ⟨t36, f, _, DefW.plain (PySem.W.mg_of X G a) l c k fun us hl => match us, hl with | [_, _, _], _ => rfl⟩
theorem w37 {K : PySem.W.Frag} {h : Heap} {mg : Str → Option Value} (X : K.In h) (G : h.Ns mainGlobals mg) {f : Addr} {oc : Value} {od an : Option Addr} {osl : Array (Option Value)} {kV doc pm cdv ct : Value}
    (a : PySem.W.nsIn K mainGlobals "_law_deed" = some (some (.ref f))) (l : K.lookup f = some ⟨oc, od, .func (PySem.W.fnOf "_law_deed" "_law_deed" (defArgs s37) (defBody s37) (defScope s37) .none kV doc pm an cdv ct), osl⟩) (c : PySem.W.codeIn K cdv "_law_deed" = true) (k : PySem.W.keepIn K (.ref f) = true) : DefT info d37 ∧ ∃ f fd, DefW K mg d37 f fd :=
  ⟨t37, f, _, DefW.plain (PySem.W.mg_of X G a) l c k fun us hl => match us, hl with | [_, _, _], _ => rfl⟩
theorem w38 {K : PySem.W.Frag} {h : Heap} {mg : Str → Option Value} (X : K.In h) (G : h.Ns mainGlobals mg) {f : Addr} {oc : Value} {od an : Option Addr} {osl : Array (Option Value)} {kV doc pm cdv ct : Value}
    (a : PySem.W.nsIn K mainGlobals "_law_step" = some (some (.ref f))) (l : K.lookup f = some ⟨oc, od, .func (PySem.W.fnOf "_law_step" "_law_step" (defArgs s38) (defBody s38) (defScope s38) .none kV doc pm an cdv ct), osl⟩) (c : PySem.W.codeIn K cdv "_law_step" = true) (k : PySem.W.keepIn K (.ref f) = true) : DefT info d38 ∧ ∃ f fd, DefW K mg d38 f fd :=
  ⟨t38, f, _, DefW.plain (PySem.W.mg_of X G a) l c k fun us hl => match us, hl with | [_, _], _ => rfl⟩
theorem w39 {K : PySem.W.Frag} {h : Heap} {mg : Str → Option Value} (X : K.In h) (G : h.Ns mainGlobals mg) {f : Addr} {oc : Value} {od an : Option Addr} {osl : Array (Option Value)} {kV doc pm cdv ct : Value}
    (a : PySem.W.nsIn K mainGlobals "_law_edge" = some (some (.ref f))) (l : K.lookup f = some ⟨oc, od, .func (PySem.W.fnOf "_law_edge" "_law_edge" (defArgs s39) (defBody s39) (defScope s39) .none kV doc pm an cdv ct), osl⟩) (c : PySem.W.codeIn K cdv "_law_edge" = true) (k : PySem.W.keepIn K (.ref f) = true) : DefT info d39 ∧ ∃ f fd, DefW K mg d39 f fd :=
  ⟨t39, f, _, DefW.plain (PySem.W.mg_of X G a) l c k fun us hl => match us, hl with | [_, _], _ => rfl⟩
theorem w40 {K : PySem.W.Frag} {h : Heap} {mg : Str → Option Value} (X : K.In h) (G : h.Ns mainGlobals mg) {f : Addr} {oc : Value} {od an : Option Addr} {osl : Array (Option Value)} {kV doc pm cdv ct : Value}
    (a : PySem.W.nsIn K mainGlobals "law" = some (some (.ref f))) (l : K.lookup f = some ⟨oc, od, .func (PySem.W.fnOf "law" "law" (defArgs s40) (defBody s40) (defScope s40) .none kV doc pm an cdv ct), osl⟩) (c : PySem.W.codeIn K cdv "law" = true) (k : PySem.W.keepIn K (.ref f) = true) : DefT info d40 ∧ ∃ f fd, DefW K mg d40 f fd :=
  ⟨t40, f, _, DefW.plain (PySem.W.mg_of X G a) l c k fun us hl => match us, hl with | [_], _ => rfl⟩
theorem all_mk {K : PySem.W.Frag} {h : Heap} {mg : Str → Option Value} (X : K.In h) (G : h.Ns mainGlobals mg) {f0 f1 f2 f3 f4 f5 f6 f7 f8 f9 f10 f11 f12 f13 f14 f15 f16 f17 f18 f19 f20 f21 f22 f23 f24 f25 f26 f27 f28 f29 f30 f31 f32 f33 f34 f35 f36 f37 f38 f39 f40 T17 C0 C1 C2 C3 C4 C5 fI2 xC2 : Addr}
    {od0 an0 od1 an1 od2 an2 od3 an3 od4 an4 od5 an5 od6 an6 od7 an7 od8 an8 od9 an9 od10 an10 od11 an11 od12 an12 od13 an13 od14 an14 od15 an15 od16 an16 od17 an17 od18 an18 od19 an19 od20 an20 od21 an21 od22 an22 od23 an23 od24 an24 od25 an25 od26 an26 od27 an27 od28 an28 od29 an29 od30 an30 od31 an31 od32 an32 od33 an33 od34 an34 od35 an35 od36 an36 od37 an37 od38 an38 od39 an39 od40 an40 : Option Addr} {sl0 sl1 sl2 sl3 sl4 sl5 sl6 sl7 sl8 sl9 sl10 sl11 sl12 sl13 sl14 sl15 sl16 sl17 sl18 sl19 sl20 sl21 sl22 sl23 sl24 sl25 sl26 sl27 sl28 sl29 sl30 sl31 sl32 sl33 sl34 sl35 sl36 sl37 sl38 sl39 sl40 : Array (Option Value)} {oc0 kV0 dc0 pm0 cd0 ct0 oc1 kV1 dc1 pm1 cd1 ct1 oc2 kV2 dc2 pm2 cd2 ct2 oc3 kV3 dc3 pm3 cd3 ct3 oc4 kV4 dc4 pm4 cd4 ct4 oc5 kV5 dc5 pm5 cd5 ct5 oc6 kV6 dc6 pm6 cd6 ct6 oc7 kV7 dc7 pm7 cd7 ct7 oc8 kV8 dc8 pm8 cd8 ct8 oc9 kV9 dc9 pm9 cd9 ct9 oc10 kV10 dc10 pm10 cd10 ct10 oc11 kV11 dc11 pm11 cd11 ct11 oc12 kV12 dc12 pm12 cd12 ct12 oc13 kV13 dc13 pm13 cd13 ct13 oc14 kV14 dc14 pm14 cd14 ct14 oc15 kV15 dc15 pm15 cd15 ct15 oc16 kV16 dc16 pm16 cd16 ct16 oc17 kV17 dc17 pm17 cd17 ct17 oc18 kV18 dc18 pm18 cd18 ct18 oc19 kV19 dc19 pm19 cd19 ct19 oc20 kV20 dc20 pm20 cd20 ct20 oc21 kV21 dc21 pm21 cd21 ct21 oc22 kV22 dc22 pm22 cd22 ct22 oc23 kV23 dc23 pm23 cd23 ct23 oc24 kV24 dc24 pm24 cd24 ct24 oc25 kV25 dc25 pm25 cd25 ct25 oc26 kV26 dc26 pm26 cd26 ct26 oc27 kV27 dc27 pm27 cd27 ct27 oc28 kV28 dc28 pm28 cd28 ct28 oc29 kV29 dc29 pm29 cd29 ct29 oc30 kV30 dc30 pm30 cd30 ct30 oc31 kV31 dc31 pm31 cd31 ct31 oc32 kV32 dc32 pm32 cd32 ct32 oc33 kV33 dc33 pm33 cd33 ct33 oc34 kV34 dc34 pm34 cd34 ct34 oc35 kV35 dc35 pm35 cd35 ct35 oc36 kV36 dc36 pm36 cd36 ct36 oc37 kV37 dc37 pm37 cd37 ct37 oc38 kV38 dc38 pm38 cd38 ct38 oc39 kV39 dc39 pm39 cd39 ct39 oc40 kV40 dc40 pm40 cd40 ct40 : Value} {bm0 bm1 bm3 bm4 bm5 : List Value} {tk1 tk2 tk3 tk4 tk5 : Tok}
    {odd17 : Option Addr} {sld17 : Array (Option Value)} {ocd17 : Value} {md17 : Nat} {dtk17 : Tok}
    {xnm2 xq2 : Str} {xN2 : Addr} {xbs2 xsu2 : List Value} {xsn2 : List Str} {xab2 : Bool} {xcol2 : Option Bool} {xdd2 : Option Addr} {m02 m12 m22 m32 m52 : Option Value}
    {iod2 ian2 : Option Addr} {isl2 : Array (Option Value)} {ioc2 ikV2 idc2 ipm2 icd2 ict2 : Value}
    (a0 : PySem.W.nsIn K mainGlobals "is_within" = some (some (.ref f0)))
    (l0 : K.lookup f0 = some ⟨oc0, od0, .func (PySem.W.fnOf "is_within" "is_within" (defArgs s0) (defBody s0) (defScope s0) .none kV0 dc0 pm0 an0 cd0 ct0), sl0⟩)
    (c0 : PySem.W.codeIn K cd0 "is_within" = true)
    (k0 : PySem.W.keepIn K (.ref f0) = true)
    (a1 : PySem.W.nsIn K mainGlobals "is_name" = some (some (.ref f1)))
    (l1 : K.lookup f1 = some ⟨oc1, od1, .func (PySem.W.fnOf "is_name" "is_name" (defArgs s1) (defBody s1) (defScope s1) .none kV1 dc1 pm1 an1 cd1 ct1), sl1⟩)
    (c1 : PySem.W.codeIn K cd1 "is_name" = true)
    (k1 : PySem.W.keepIn K (.ref f1) = true)
    (a2 : PySem.W.nsIn K mainGlobals "is_leaf" = some (some (.ref f2)))
    (l2 : K.lookup f2 = some ⟨oc2, od2, .func (PySem.W.fnOf "is_leaf" "is_leaf" (defArgs s2) (defBody s2) (defScope s2) .none kV2 dc2 pm2 an2 cd2 ct2), sl2⟩)
    (c2 : PySem.W.codeIn K cd2 "is_leaf" = true)
    (k2 : PySem.W.keepIn K (.ref f2) = true)
    (a3 : PySem.W.nsIn K mainGlobals "left_of" = some (some (.ref f3)))
    (l3 : K.lookup f3 = some ⟨oc3, od3, .func (PySem.W.fnOf "left_of" "left_of" (defArgs s3) (defBody s3) (defScope s3) .none kV3 dc3 pm3 an3 cd3 ct3), sl3⟩)
    (c3 : PySem.W.codeIn K cd3 "left_of" = true)
    (k3 : PySem.W.keepIn K (.ref f3) = true)
    (a4 : PySem.W.nsIn K mainGlobals "is_term" = some (some (.ref f4)))
    (l4 : K.lookup f4 = some ⟨oc4, od4, .func (PySem.W.fnOf "is_term" "is_term" (defArgs s4) (defBody s4) (defScope s4) .none kV4 dc4 pm4 an4 cd4 ct4), sl4⟩)
    (c4 : PySem.W.codeIn K cd4 "is_term" = true)
    (k4 : PySem.W.keepIn K (.ref f4) = true)
    (a5 : PySem.W.nsIn K mainGlobals "checked" = some (some (.ref f5)))
    (l5 : K.lookup f5 = some ⟨oc5, od5, .func (PySem.W.fnOf "checked" "checked" (defArgs s5) (defBody s5) (defScope s5) .none kV5 dc5 pm5 an5 cd5 ct5), sl5⟩)
    (c5 : PySem.W.codeIn K cd5 "checked" = true)
    (k5 : PySem.W.keepIn K (.ref f5) = true)
    (a6 : PySem.W.nsIn K mainGlobals "looked" = some (some (.ref f6)))
    (l6 : K.lookup f6 = some ⟨oc6, od6, .func (PySem.W.fnOf "looked" "looked" (defArgs s6) (defBody s6) (defScope s6) .none kV6 dc6 pm6 an6 cd6 ct6), sl6⟩)
    (c6 : PySem.W.codeIn K cd6 "looked" = true)
    (k6 : PySem.W.keepIn K (.ref f6) = true)
    (a7 : PySem.W.nsIn K mainGlobals "leaves" = some (some (.ref f7)))
    (l7 : K.lookup f7 = some ⟨oc7, od7, .func (PySem.W.fnOf "leaves" "leaves" (defArgs s7) (defBody s7) (defScope s7) .none kV7 dc7 pm7 an7 cd7 ct7), sl7⟩)
    (c7 : PySem.W.codeIn K cd7 "leaves" = true)
    (k7 : PySem.W.keepIn K (.ref f7) = true)
    (a8 : PySem.W.nsIn K mainGlobals "deed_of" = some (some (.ref f8)))
    (l8 : K.lookup f8 = some ⟨oc8, od8, .func (PySem.W.fnOf "deed_of" "deed_of" (defArgs s8) (defBody s8) (defScope s8) .none kV8 dc8 pm8 an8 cd8 ct8), sl8⟩)
    (c8 : PySem.W.codeIn K cd8 "deed_of" = true)
    (k8 : PySem.W.keepIn K (.ref f8) = true)
    (a9 : PySem.W.nsIn K mainGlobals "done" = some (some (.ref f9)))
    (l9 : K.lookup f9 = some ⟨oc9, od9, .func (PySem.W.fnOf "done" "done" (defArgs s9) (defBody s9) (defScope s9) .none kV9 dc9 pm9 an9 cd9 ct9), sl9⟩)
    (c9 : PySem.W.codeIn K cd9 "done" = true)
    (k9 : PySem.W.keepIn K (.ref f9) = true)
    (a10 : PySem.W.nsIn K mainGlobals "ways_of" = some (some (.ref f10)))
    (l10 : K.lookup f10 = some ⟨oc10, od10, .func (PySem.W.fnOf "ways_of" "ways_of" (defArgs s10) (defBody s10) (defScope s10) .none kV10 dc10 pm10 an10 cd10 ct10), sl10⟩)
    (c10 : PySem.W.codeIn K cd10 "ways_of" = true)
    (k10 : PySem.W.keepIn K (.ref f10) = true)
    (a11 : PySem.W.nsIn K mainGlobals "part_at" = some (some (.ref f11)))
    (l11 : K.lookup f11 = some ⟨oc11, od11, .func (PySem.W.fnOf "part_at" "part_at" (defArgs s11) (defBody s11) (defScope s11) .none kV11 dc11 pm11 an11 cd11 ct11), sl11⟩)
    (c11 : PySem.W.codeIn K cd11 "part_at" = true)
    (k11 : PySem.W.keepIn K (.ref f11) = true)
    (a12 : PySem.W.nsIn K mainGlobals "with_part" = some (some (.ref f12)))
    (l12 : K.lookup f12 = some ⟨oc12, od12, .func (PySem.W.fnOf "with_part" "with_part" (defArgs s12) (defBody s12) (defScope s12) .none kV12 dc12 pm12 an12 cd12 ct12), sl12⟩)
    (c12 : PySem.W.codeIn K cd12 "with_part" = true)
    (k12 : PySem.W.keepIn K (.ref f12) = true)
    (a13 : PySem.W.nsIn K mainGlobals "look_way" = some (some (.ref f13)))
    (l13 : K.lookup f13 = some ⟨oc13, od13, .func (PySem.W.fnOf "look_way" "look_way" (defArgs s13) (defBody s13) (defScope s13) .none kV13 dc13 pm13 an13 cd13 ct13), sl13⟩)
    (c13 : PySem.W.codeIn K cd13 "look_way" = true)
    (k13 : PySem.W.keepIn K (.ref f13) = true)
    (a14 : PySem.W.nsIn K mainGlobals "step_to" = some (some (.ref f14)))
    (l14 : K.lookup f14 = some ⟨oc14, od14, .func (PySem.W.fnOf "step_to" "step_to" (defArgs s14) (defBody s14) (defScope s14) .none kV14 dc14 pm14 an14 cd14 ct14), sl14⟩)
    (c14 : PySem.W.codeIn K cd14 "step_to" = true)
    (k14 : PySem.W.keepIn K (.ref f14) = true)
    (a15 : PySem.W.nsIn K mainGlobals "stepped" = some (some (.ref f15)))
    (l15 : K.lookup f15 = some ⟨oc15, od15, .func (PySem.W.fnOf "stepped" "stepped" (defArgs s15) (defBody s15) (defScope s15) .none kV15 dc15 pm15 an15 cd15 ct15), sl15⟩)
    (c15 : PySem.W.codeIn K cd15 "stepped" = true)
    (k15 : PySem.W.keepIn K (.ref f15) = true)
    (a16 : PySem.W.nsIn K mainGlobals "led" = some (some (.ref f16)))
    (l16 : K.lookup f16 = some ⟨oc16, od16, .func (PySem.W.fnOf "led" "led" (defArgs s16) (defBody s16) (defScope s16) .none kV16 dc16 pm16 an16 cd16 ct16), sl16⟩)
    (c16 : PySem.W.codeIn K cd16 "led" = true)
    (k16 : PySem.W.keepIn K (.ref f16) = true)
    (a17 : PySem.W.nsIn K mainGlobals "played" = some (some (.ref f17)))
    (l17 : K.lookup f17 = some ⟨oc17, od17, .func (PySem.W.fnOf "played" "played" (defArgs s17) (defBody s17) (defScope s17) (.ref T17) kV17 dc17 pm17 an17 cd17 ct17), sl17⟩)
    (ld17 : K.lookup T17 = some ⟨ocd17, odd17, .seq [.int 50 dtk17].toArray md17, sld17⟩)
    (c17 : PySem.W.codeIn K cd17 "played" = true)
    (k17 : PySem.W.keepIn K (.ref f17) = true)
    (a18 : PySem.W.nsIn K mainGlobals "below" = some (some (.ref f18)))
    (l18 : K.lookup f18 = some ⟨oc18, od18, .func (PySem.W.fnOf "below" "below" (defArgs s18) (defBody s18) (defScope s18) .none kV18 dc18 pm18 an18 cd18 ct18), sl18⟩)
    (c18 : PySem.W.codeIn K cd18 "below" = true)
    (k18 : PySem.W.keepIn K (.ref f18) = true)
    (a19 : PySem.W.nsIn K mainGlobals "look_ways" = some (some (.ref f19)))
    (l19 : K.lookup f19 = some ⟨oc19, od19, .func (PySem.W.fnOf "look_ways" "look_ways" (defArgs s19) (defBody s19) (defScope s19) .none kV19 dc19 pm19 an19 cd19 ct19), sl19⟩)
    (c19 : PySem.W.codeIn K cd19 "look_ways" = true)
    (k19 : PySem.W.keepIn K (.ref f19) = true)
    (a20 : PySem.W.nsIn K mainGlobals "all_done" = some (some (.ref f20)))
    (l20 : K.lookup f20 = some ⟨oc20, od20, .func (PySem.W.fnOf "all_done" "all_done" (defArgs s20) (defBody s20) (defScope s20) .none kV20 dc20 pm20 an20 cd20 ct20), sl20⟩)
    (c20 : PySem.W.codeIn K cd20 "all_done" = true)
    (k20 : PySem.W.keepIn K (.ref f20) = true)
    (a21 : PySem.W.nsIn K mainGlobals "moved" = some (some (.ref f21)))
    (l21 : K.lookup f21 = some ⟨oc21, od21, .func (PySem.W.fnOf "moved" "moved" (defArgs s21) (defBody s21) (defScope s21) .none kV21 dc21 pm21 an21 cd21 ct21), sl21⟩)
    (c21 : PySem.W.codeIn K cd21 "moved" = true)
    (k21 : PySem.W.keepIn K (.ref f21) = true)
    (a22 : PySem.W.nsIn K mainGlobals "left" = some (some (.ref f22)))
    (l22 : K.lookup f22 = some ⟨oc22, od22, .func (PySem.W.fnOf "left" "left" (defArgs s22) (defBody s22) (defScope s22) .none kV22 dc22 pm22 an22 cd22 ct22), sl22⟩)
    (c22 : PySem.W.codeIn K cd22 "left" = true)
    (k22 : PySem.W.keepIn K (.ref f22) = true)
    (a23 : PySem.W.nsIn K mainGlobals "walked" = some (some (.ref f23)))
    (l23 : K.lookup f23 = some ⟨oc23, od23, .func (PySem.W.fnOf "walked" "walked" (defArgs s23) (defBody s23) (defScope s23) .none kV23 dc23 pm23 an23 cd23 ct23), sl23⟩)
    (c23 : PySem.W.codeIn K cd23 "walked" = true)
    (k23 : PySem.W.keepIn K (.ref f23) = true)
    (a24 : PySem.W.nsIn K mainGlobals "woven" = some (some (.ref f24)))
    (l24 : K.lookup f24 = some ⟨oc24, od24, .func (PySem.W.fnOf "woven" "woven" (defArgs s24) (defBody s24) (defScope s24) .none kV24 dc24 pm24 an24 cd24 ct24), sl24⟩)
    (c24 : PySem.W.codeIn K cd24 "woven" = true)
    (k24 : PySem.W.keepIn K (.ref f24) = true)
    (a25 : PySem.W.nsIn K mainGlobals "meet" = some (some (.ref f25)))
    (l25 : K.lookup f25 = some ⟨oc25, od25, .func (PySem.W.fnOf "meet" "meet" (defArgs s25) (defBody s25) (defScope s25) .none kV25 dc25 pm25 an25 cd25 ct25), sl25⟩)
    (c25 : PySem.W.codeIn K cd25 "meet" = true)
    (k25 : PySem.W.keepIn K (.ref f25) = true)
    (a26 : PySem.W.nsIn K mainGlobals "line_to" = some (some (.ref f26)))
    (l26 : K.lookup f26 = some ⟨oc26, od26, .func (PySem.W.fnOf "line_to" "line_to" (defArgs s26) (defBody s26) (defScope s26) .none kV26 dc26 pm26 an26 cd26 ct26), sl26⟩)
    (c26 : PySem.W.codeIn K cd26 "line_to" = true)
    (k26 : PySem.W.keepIn K (.ref f26) = true)
    (a27 : PySem.W.nsIn K mainGlobals "after" = some (some (.ref f27)))
    (l27 : K.lookup f27 = some ⟨oc27, od27, .func (PySem.W.fnOf "after" "after" (defArgs s27) (defBody s27) (defScope s27) .none kV27 dc27 pm27 an27 cd27 ct27), sl27⟩)
    (c27 : PySem.W.codeIn K cd27 "after" = true)
    (k27 : PySem.W.keepIn K (.ref f27) = true)
    (a28 : PySem.W.nsIn K mainGlobals "end_of" = some (some (.ref f28)))
    (l28 : K.lookup f28 = some ⟨oc28, od28, .func (PySem.W.fnOf "end_of" "end_of" (defArgs s28) (defBody s28) (defScope s28) .none kV28 dc28 pm28 an28 cd28 ct28), sl28⟩)
    (c28 : PySem.W.codeIn K cd28 "end_of" = true)
    (k28 : PySem.W.keepIn K (.ref f28) = true)
    (a29 : PySem.W.nsIn K mainGlobals "led_by" = some (some (.ref f29)))
    (l29 : K.lookup f29 = some ⟨oc29, od29, .func (PySem.W.fnOf "led_by" "led_by" (defArgs s29) (defBody s29) (defScope s29) .none kV29 dc29 pm29 an29 cd29 ct29), sl29⟩)
    (c29 : PySem.W.codeIn K cd29 "led_by" = true)
    (k29 : PySem.W.keepIn K (.ref f29) = true)
    (a30 : PySem.W.nsIn K mainGlobals "_law_cell" = some (some (.ref f30)))
    (l30 : K.lookup f30 = some ⟨oc30, od30, .func (PySem.W.fnOf "_law_cell" "_law_cell" (defArgs s30) (defBody s30) (defScope s30) .none kV30 dc30 pm30 an30 cd30 ct30), sl30⟩)
    (c30 : PySem.W.codeIn K cd30 "_law_cell" = true)
    (k30 : PySem.W.keepIn K (.ref f30) = true)
    (a31 : PySem.W.nsIn K mainGlobals "_law_row" = some (some (.ref f31)))
    (l31 : K.lookup f31 = some ⟨oc31, od31, .func (PySem.W.fnOf "_law_row" "_law_row" (defArgs s31) (defBody s31) (defScope s31) .none kV31 dc31 pm31 an31 cd31 ct31), sl31⟩)
    (c31 : PySem.W.codeIn K cd31 "_law_row" = true)
    (k31 : PySem.W.keepIn K (.ref f31) = true)
    (a32 : PySem.W.nsIn K mainGlobals "_law_name" = some (some (.ref f32)))
    (l32 : K.lookup f32 = some ⟨oc32, od32, .func (PySem.W.fnOf "_law_name" "_law_name" (defArgs s32) (defBody s32) (defScope s32) .none kV32 dc32 pm32 an32 cd32 ct32), sl32⟩)
    (c32 : PySem.W.codeIn K cd32 "_law_name" = true)
    (k32 : PySem.W.keepIn K (.ref f32) = true)
    (a33 : PySem.W.nsIn K mainGlobals "_law_leaf" = some (some (.ref f33)))
    (l33 : K.lookup f33 = some ⟨oc33, od33, .func (PySem.W.fnOf "_law_leaf" "_law_leaf" (defArgs s33) (defBody s33) (defScope s33) .none kV33 dc33 pm33 an33 cd33 ct33), sl33⟩)
    (c33 : PySem.W.codeIn K cd33 "_law_leaf" = true)
    (k33 : PySem.W.keepIn K (.ref f33) = true)
    (a34 : PySem.W.nsIn K mainGlobals "_law_leaves" = some (some (.ref f34)))
    (l34 : K.lookup f34 = some ⟨oc34, od34, .func (PySem.W.fnOf "_law_leaves" "_law_leaves" (defArgs s34) (defBody s34) (defScope s34) .none kV34 dc34 pm34 an34 cd34 ct34), sl34⟩)
    (c34 : PySem.W.codeIn K cd34 "_law_leaves" = true)
    (k34 : PySem.W.keepIn K (.ref f34) = true)
    (a35 : PySem.W.nsIn K mainGlobals "_law_part" = some (some (.ref f35)))
    (l35 : K.lookup f35 = some ⟨oc35, od35, .func (PySem.W.fnOf "_law_part" "_law_part" (defArgs s35) (defBody s35) (defScope s35) .none kV35 dc35 pm35 an35 cd35 ct35), sl35⟩)
    (c35 : PySem.W.codeIn K cd35 "_law_part" = true)
    (k35 : PySem.W.keepIn K (.ref f35) = true)
    (a36 : PySem.W.nsIn K mainGlobals "_law_with" = some (some (.ref f36)))
    (l36 : K.lookup f36 = some ⟨oc36, od36, .func (PySem.W.fnOf "_law_with" "_law_with" (defArgs s36) (defBody s36) (defScope s36) .none kV36 dc36 pm36 an36 cd36 ct36), sl36⟩)
    (c36 : PySem.W.codeIn K cd36 "_law_with" = true)
    (k36 : PySem.W.keepIn K (.ref f36) = true)
    (a37 : PySem.W.nsIn K mainGlobals "_law_deed" = some (some (.ref f37)))
    (l37 : K.lookup f37 = some ⟨oc37, od37, .func (PySem.W.fnOf "_law_deed" "_law_deed" (defArgs s37) (defBody s37) (defScope s37) .none kV37 dc37 pm37 an37 cd37 ct37), sl37⟩)
    (c37 : PySem.W.codeIn K cd37 "_law_deed" = true)
    (k37 : PySem.W.keepIn K (.ref f37) = true)
    (a38 : PySem.W.nsIn K mainGlobals "_law_step" = some (some (.ref f38)))
    (l38 : K.lookup f38 = some ⟨oc38, od38, .func (PySem.W.fnOf "_law_step" "_law_step" (defArgs s38) (defBody s38) (defScope s38) .none kV38 dc38 pm38 an38 cd38 ct38), sl38⟩)
    (c38 : PySem.W.codeIn K cd38 "_law_step" = true)
    (k38 : PySem.W.keepIn K (.ref f38) = true)
    (a39 : PySem.W.nsIn K mainGlobals "_law_edge" = some (some (.ref f39)))
    (l39 : K.lookup f39 = some ⟨oc39, od39, .func (PySem.W.fnOf "_law_edge" "_law_edge" (defArgs s39) (defBody s39) (defScope s39) .none kV39 dc39 pm39 an39 cd39 ct39), sl39⟩)
    (c39 : PySem.W.codeIn K cd39 "_law_edge" = true)
    (k39 : PySem.W.keepIn K (.ref f39) = true)
    (a40 : PySem.W.nsIn K mainGlobals "law" = some (some (.ref f40)))
    (l40 : K.lookup f40 = some ⟨oc40, od40, .func (PySem.W.fnOf "law" "law" (defArgs s40) (defBody s40) (defScope s40) .none kV40 dc40 pm40 an40 cd40 ct40), sl40⟩)
    (c40 : PySem.W.codeIn K cd40 "law" = true)
    (k40 : PySem.W.keepIn K (.ref f40) = true)
    (z_len : PySem.W.nsIn K mainGlobals "len" = some none)
    (z_list : PySem.W.nsIn K mainGlobals "list" = some none)
    (z_tuple : PySem.W.nsIn K mainGlobals "tuple" = some none)
    (z_sorted : PySem.W.nsIn K mainGlobals "sorted" = some none)
    (z_str : PySem.W.nsIn K mainGlobals "str" = some none)
    (z_isinstance : PySem.W.nsIn K mainGlobals "isinstance" = some none)
    (z_int : PySem.W.nsIn K mainGlobals "int" = some none)
    (z_bool : PySem.W.nsIn K mainGlobals "bool" = some none)
    (z_set : PySem.W.nsIn K mainGlobals "set" = some none)
    (z_range : PySem.W.nsIn K mainGlobals "range" = some none)
    (z_enumerate : PySem.W.nsIn K mainGlobals "enumerate" = some none)
    (z_zip : PySem.W.nsIn K mainGlobals "zip" = some none)
    (z_reversed : PySem.W.nsIn K mainGlobals "reversed" = some none)
    (z_max : PySem.W.nsIn K mainGlobals "max" = some none)
    (z_ValueError : PySem.W.nsIn K mainGlobals "ValueError" = some none)
    (xn : PySem.W.specialIn K (.builtin "object.__class__") "__get__" = some (some (.builtin "getset_descriptor.__get__")))
    (xtk : PySem.W.takesIn K (.builtin "object.__class__") = some true)
    (xa0 : PySem.W.nsIn K mainGlobals "CopyError" = some (some (.ref C0)))
    (xk0 : PySem.W.keepIn K (.ref C0) = true)
    (xt0 : PySem.W.typeIn K (.ref C0) = some (.type "type"))
    (xb0 : PySem.W.subIn K (.ref C0) (.type "BaseException") = some true)
    (xg0 : PySem.W.findIn K (.ref C0) "__getattribute__" = some (some (.builtin "BaseException.__getattribute__")))
    (xh0 : PySem.W.findIn K (.ref C0) "__getattr__" = some none)
    (xd0 : PySem.W.hasDictIn K C0 = true)
    (xc0 : PySem.W.findIn K (.ref C0) "__class__" = some (some (.builtin "object.__class__")))
    (xm0 : PySem.W.mroIn K C0 (.type "object") = some true)
    (xv0 : PySem.W.subIn K (.ref C0) (.type "ValueError") = some true)
    (xe0 : PySem.W.excIn K C0 bm0 "ValueError.__new__" = true)
    (xa1 : PySem.W.nsIn K mainGlobals "BadTerm" = some (some (.ref C1)))
    (xk1 : PySem.W.keepIn K (.ref C1) = true)
    (xt1 : PySem.W.typeIn K (.ref C1) = some (.type "type"))
    (xb1 : PySem.W.subIn K (.ref C1) (.type "BaseException") = some true)
    (xg1 : PySem.W.findIn K (.ref C1) "__getattribute__" = some (some (.builtin "BaseException.__getattribute__")))
    (xh1 : PySem.W.findIn K (.ref C1) "__getattr__" = some none)
    (xd1 : PySem.W.hasDictIn K C1 = true)
    (xc1 : PySem.W.findIn K (.ref C1) "__class__" = some (some (.builtin "object.__class__")))
    (xm1 : PySem.W.mroIn K C1 (.type "object") = some true)
    (xv1 : PySem.W.subIn K (.ref C1) (.type "ValueError") = some true)
    (xe1 : PySem.W.excIn K C1 bm1 "ValueError.__new__" = true)
    (xa2 : PySem.W.nsIn K mainGlobals "BadWay" = some (some (.ref C2)))
    (xk2 : PySem.W.keepIn K (.ref C2) = true)
    (xt2 : PySem.W.typeIn K (.ref C2) = some (.type "type"))
    (xb2 : PySem.W.subIn K (.ref C2) (.type "BaseException") = some true)
    (xg2 : PySem.W.findIn K (.ref C2) "__getattribute__" = some (some (.builtin "BaseException.__getattribute__")))
    (xh2 : PySem.W.findIn K (.ref C2) "__getattr__" = some none)
    (xd2 : PySem.W.hasDictIn K C2 = true)
    (xc2 : PySem.W.findIn K (.ref C2) "__class__" = some (some (.builtin "object.__class__")))
    (xm2 : PySem.W.mroIn K C2 (.type "object") = some true)
    (xv2 : PySem.W.subIn K (.ref C2) (.type "ValueError") = some true)
    (xf2 : PySem.W.findIn K (.ref C2) "way" = some none)
    (xo2 : K.lookup C2 = some (excClassObj xnm2 xq2 C2 xN2 xbs2 [.ref xC2, .type "ValueError", .type "Exception", .type "BaseException", .type "object"] true xsn2 xsu2 xab2 xcol2 xdd2 m02 m12 m22 m32 m52 "ValueError.__new__"))
    (xs2 : PySem.W.findIn K (.ref C2) "__setattr__" = some (some (.builtin "object.__setattr__")))
    (xi2 : PySem.W.findIn K (.ref C2) "__init__" = some (some (.ref fI2)))
    (xj2 : PySem.W.typeIn K (.ref fI2) = some (.type "function"))
    (xl2 : K.lookup fI2 = some ⟨ioc2, iod2, .func (PySem.W.fnOf "__init__" "BadWay.__init__" (defArgs sI_BadWay) (defBody sI_BadWay) (defScope sI_BadWay) .none ikV2 idc2 ipm2 ian2 icd2 ict2), isl2⟩)
    (xy2 : PySem.W.codeIn K icd2 "BadWay.__init__" = true)
    (xa3 : PySem.W.nsIn K mainGlobals "BadCount" = some (some (.ref C3)))
    (xk3 : PySem.W.keepIn K (.ref C3) = true)
    (xt3 : PySem.W.typeIn K (.ref C3) = some (.type "type"))
    (xb3 : PySem.W.subIn K (.ref C3) (.type "BaseException") = some true)
    (xg3 : PySem.W.findIn K (.ref C3) "__getattribute__" = some (some (.builtin "BaseException.__getattribute__")))
    (xh3 : PySem.W.findIn K (.ref C3) "__getattr__" = some none)
    (xd3 : PySem.W.hasDictIn K C3 = true)
    (xc3 : PySem.W.findIn K (.ref C3) "__class__" = some (some (.builtin "object.__class__")))
    (xm3 : PySem.W.mroIn K C3 (.type "object") = some true)
    (xv3 : PySem.W.subIn K (.ref C3) (.type "ValueError") = some true)
    (xe3 : PySem.W.excIn K C3 bm3 "ValueError.__new__" = true)
    (xa4 : PySem.W.nsIn K mainGlobals "BadPaper" = some (some (.ref C4)))
    (xk4 : PySem.W.keepIn K (.ref C4) = true)
    (xt4 : PySem.W.typeIn K (.ref C4) = some (.type "type"))
    (xb4 : PySem.W.subIn K (.ref C4) (.type "BaseException") = some true)
    (xg4 : PySem.W.findIn K (.ref C4) "__getattribute__" = some (some (.builtin "BaseException.__getattribute__")))
    (xh4 : PySem.W.findIn K (.ref C4) "__getattr__" = some none)
    (xd4 : PySem.W.hasDictIn K C4 = true)
    (xc4 : PySem.W.findIn K (.ref C4) "__class__" = some (some (.builtin "object.__class__")))
    (xm4 : PySem.W.mroIn K C4 (.type "object") = some true)
    (xv4 : PySem.W.subIn K (.ref C4) (.type "ValueError") = some true)
    (xe4 : PySem.W.excIn K C4 bm4 "ValueError.__new__" = true)
    (xa5 : PySem.W.nsIn K mainGlobals "TooBig" = some (some (.ref C5)))
    (xk5 : PySem.W.keepIn K (.ref C5) = true)
    (xt5 : PySem.W.typeIn K (.ref C5) = some (.type "type"))
    (xb5 : PySem.W.subIn K (.ref C5) (.type "BaseException") = some true)
    (xg5 : PySem.W.findIn K (.ref C5) "__getattribute__" = some (some (.builtin "BaseException.__getattribute__")))
    (xh5 : PySem.W.findIn K (.ref C5) "__getattr__" = some none)
    (xd5 : PySem.W.hasDictIn K C5 = true)
    (xc5 : PySem.W.findIn K (.ref C5) "__class__" = some (some (.builtin "object.__class__")))
    (xm5 : PySem.W.mroIn K C5 (.type "object") = some true)
    (xv5 : PySem.W.subIn K (.ref C5) (.type "ValueError") = some true)
    (xe5 : PySem.W.excIn K C5 bm5 "ValueError.__new__" = true)
    (xga : PySem.W.specialIn K (.ref C0) "__getattribute__" = some (some (.builtin "type.__getattribute__")))
    (xrd : PySem.W.readsIn K C0 (.type "type") = true)
    (xfc : PySem.W.findCls K (.ref C0) (.type "type") "__init__" = some (.val (.builtin "ValueError.__init__")))
    (xq0_0 : PySem.W.subIn K (.ref C0) (.ref C0) = some true)
    (xq0_1 : PySem.W.subIn K (.ref C0) (.ref C1) = some false)
    (xq0_2 : PySem.W.subIn K (.ref C0) (.ref C2) = some false)
    (xq0_3 : PySem.W.subIn K (.ref C0) (.ref C3) = some false)
    (xq0_4 : PySem.W.subIn K (.ref C0) (.ref C4) = some false)
    (xq0_5 : PySem.W.subIn K (.ref C0) (.ref C5) = some false)
    (xq1_0 : PySem.W.subIn K (.ref C1) (.ref C0) = some true)
    (xq1_1 : PySem.W.subIn K (.ref C1) (.ref C1) = some true)
    (xq1_2 : PySem.W.subIn K (.ref C1) (.ref C2) = some false)
    (xq1_3 : PySem.W.subIn K (.ref C1) (.ref C3) = some false)
    (xq1_4 : PySem.W.subIn K (.ref C1) (.ref C4) = some false)
    (xq1_5 : PySem.W.subIn K (.ref C1) (.ref C5) = some false)
    (xq2_0 : PySem.W.subIn K (.ref C2) (.ref C0) = some true)
    (xq2_1 : PySem.W.subIn K (.ref C2) (.ref C1) = some false)
    (xq2_2 : PySem.W.subIn K (.ref C2) (.ref C2) = some true)
    (xq2_3 : PySem.W.subIn K (.ref C2) (.ref C3) = some false)
    (xq2_4 : PySem.W.subIn K (.ref C2) (.ref C4) = some false)
    (xq2_5 : PySem.W.subIn K (.ref C2) (.ref C5) = some false)
    (xq3_0 : PySem.W.subIn K (.ref C3) (.ref C0) = some true)
    (xq3_1 : PySem.W.subIn K (.ref C3) (.ref C1) = some false)
    (xq3_2 : PySem.W.subIn K (.ref C3) (.ref C2) = some false)
    (xq3_3 : PySem.W.subIn K (.ref C3) (.ref C3) = some true)
    (xq3_4 : PySem.W.subIn K (.ref C3) (.ref C4) = some false)
    (xq3_5 : PySem.W.subIn K (.ref C3) (.ref C5) = some false)
    (xq4_0 : PySem.W.subIn K (.ref C4) (.ref C0) = some true)
    (xq4_1 : PySem.W.subIn K (.ref C4) (.ref C1) = some false)
    (xq4_2 : PySem.W.subIn K (.ref C4) (.ref C2) = some false)
    (xq4_3 : PySem.W.subIn K (.ref C4) (.ref C3) = some false)
    (xq4_4 : PySem.W.subIn K (.ref C4) (.ref C4) = some true)
    (xq4_5 : PySem.W.subIn K (.ref C4) (.ref C5) = some false)
    (xq5_0 : PySem.W.subIn K (.ref C5) (.ref C0) = some true)
    (xq5_1 : PySem.W.subIn K (.ref C5) (.ref C1) = some false)
    (xq5_2 : PySem.W.subIn K (.ref C5) (.ref C2) = some false)
    (xq5_3 : PySem.W.subIn K (.ref C5) (.ref C3) = some false)
    (xq5_4 : PySem.W.subIn K (.ref C5) (.ref C4) = some false)
    (xq5_5 : PySem.W.subIn K (.ref C5) (.ref C5) = some true)
    (gl0 : PySem.W.nsIn K mainGlobals "MOST_LEAVES" = some (some (.int 200 tk1)))
    (gl1 : PySem.W.nsIn K mainGlobals "SMALL" = some (some (.str "abcdefghijklmnopqrstuvwxyz" tk2)))
    (gl2 : PySem.W.nsIn K mainGlobals "MOST_PLAYED" = some (some (.int 400 tk3)))
    (gl3 : PySem.W.nsIn K mainGlobals "MOST_ROW" = some (some (.int 8 tk4)))
    (gl4 : PySem.W.nsIn K mainGlobals "MOST_LINES" = some (some (.int 12 tk5)))
    (xf0 : ∃ ni, ExcBaseFacts "ValueError" "ValueError.__new__" ni bm0)
    (xf1 : ∃ ni, ExcBaseFacts "ValueError" "ValueError.__new__" ni bm1)
    (xf3 : ∃ ni, ExcBaseFacts "ValueError" "ValueError.__new__" ni bm3)
    (xf4 : ∃ ni, ExcBaseFacts "ValueError" "ValueError.__new__" ni bm4)
    (xf5 : ∃ ni, ExcBaseFacts "ValueError" "ValueError.__new__" ni bm5)
    : ∃ ct f fd, World' K mg info defs ct ∧ DefW K mg d40 f fd ∧ ∀ (s : Shared) (u : Value), BindsTo s fd ⟨[u], []⟩ [("_law_script", u)] := by
  have hd : AllD (fun d => DefT info d ∧ ∃ f fd, DefW K mg d f fd) defs := ⟨w0 X G a0 l0 c0 k0, w1 X G a1 l1 c1 k1, w2 X G a2 l2 c2 k2, w3 X G a3 l3 c3 k3, w4 X G a4 l4 c4 k4, w5 X G a5 l5 c5 k5, w6 X G a6 l6 c6 k6, w7 X G a7 l7 c7 k7, w8 X G a8 l8 c8 k8, w9 X G a9 l9 c9 k9, w10 X G a10 l10 c10 k10, w11 X G a11 l11 c11 k11, w12 X G a12 l12 c12 k12, w13 X G a13 l13 c13 k13, w14 X G a14 l14 c14 k14, w15 X G a15 l15 c15 k15, w16 X G a16 l16 c16 k16, w17 X G a17 l17 c17 k17 ld17, w18 X G a18 l18 c18 k18, w19 X G a19 l19 c19 k19, w20 X G a20 l20 c20 k20, w21 X G a21 l21 c21 k21, w22 X G a22 l22 c22 k22, w23 X G a23 l23 c23 k23, w24 X G a24 l24 c24 k24, w25 X G a25 l25 c25 k25, w26 X G a26 l26 c26 k26, w27 X G a27 l27 c27 k27, w28 X G a28 l28 c28 k28, w29 X G a29 l29 c29 k29, w30 X G a30 l30 c30 k30, w31 X G a31 l31 c31 k31, w32 X G a32 l32 c32 k32, w33 X G a33 l33 c33 k33, w34 X G a34 l34 c34 k34, w35 X G a35 l35 c35 k35, w36 X G a36 l36 c36 k36, w37 X G a37 l37 c37 k37, w38 X G a38 l38 c38 k38, w39 X G a39 l39 c39 k39, w40 X G a40 l40 c40 k40, trivial⟩
  let ct : Nat → Option (Addr × Str) := fun c => match c with
    | 0 => some (C0, "")
    | 1 => some (C1, "")
    | 2 => some (C2, "way")
    | 3 => some (C3, "")
    | 4 => some (C4, "")
    | 5 => some (C5, "")
    | _ => none
  refine ⟨ct, f40, _, ⟨rfl, fun i d e => hd.at e, fun i x d e => ?_, blt_all (PySem.W.mg_none_of X G z_len) (PySem.W.mg_none_of X G z_list) (PySem.W.mg_none_of X G z_tuple) (PySem.W.mg_none_of X G z_sorted) (PySem.W.mg_none_of X G z_str) (PySem.W.mg_none_of X G z_isinstance) (PySem.W.mg_none_of X G z_int) (PySem.W.mg_none_of X G z_bool) (PySem.W.mg_none_of X G z_set) (PySem.W.mg_none_of X G z_range) (PySem.W.mg_none_of X G z_enumerate) (PySem.W.mg_none_of X G z_zip) (PySem.W.mg_none_of X G z_reversed) (PySem.W.mg_none_of X G z_max), PySem.W.mg_none_of X G z_ValueError, fun c xi e => ?_⟩, DefW.plain (PySem.W.mg_of X G a40) l40 c40 k40 fun us hl => match us, hl with | [_], _ => rfl, fun s u => .of_eq rfl⟩
  · match i, e with
    | 0, e => cases e; exact ⟨_, (.int 200), PySem.W.mg_of X G gl0, ⟨_, rfl⟩, (.int _)⟩
    | 1, e => cases e; exact ⟨_, (.str "abcdefghijklmnopqrstuvwxyz"), PySem.W.mg_of X G gl1, ⟨_, rfl⟩, (.str _)⟩
    | 2, e => cases e; exact ⟨_, (.int 400), PySem.W.mg_of X G gl2, ⟨_, rfl⟩, (.int _)⟩
    | 3, e => cases e; exact ⟨_, (.int 8), PySem.W.mg_of X G gl3, ⟨_, rfl⟩, (.int _)⟩
    | 4, e => cases e; exact ⟨_, (.int 12), PySem.W.mg_of X G gl4, ⟨_, rfl⟩, (.int _)⟩
    | i + 5, e => exact absurd e (by simp [info, globs])
  · match c, e with
    | 0, e =>
      cases e
      have sb : ∀ (cc : Nat) (yi : XInfo) (D : Addr) (nm' : Str), info.exs[cc]? = some yi → ct cc = some (D, nm') → PySem.W.subIn K (.ref C0) (.ref D) = some (([0, 99] : List Nat).contains cc) := fun cc yi D nm' h1 h2 => by
        match cc, h1, h2 with
        | 0, h1, h2 => cases h1; cases h2; exact xq0_0
        | 1, h1, h2 => cases h1; cases h2; exact xq0_1
        | 2, h1, h2 => cases h1; cases h2; exact xq0_2
        | 3, h1, h2 => cases h1; cases h2; exact xq0_3
        | 4, h1, h2 => cases h1; cases h2; exact xq0_4
        | 5, h1, h2 => cases h1; cases h2; exact xq0_5
        | c + 6, h1, h2 => exact absurd h1 (by simp [info, exns])
      obtain ⟨ni, hf⟩ := xf0
      exact ⟨C0, _, rfl, PySem.W.mg_of X G xa0, xk0, xt0, fun _ => ⟨_, _, _, _, hf, xe0⟩, ⟨xg0, xh0, xb0, xd0, xc0, xn, xtk, xm0⟩, fun f z => (by cases z), sb, xv0, xq0_0, fun f z => (by cases z)⟩
    | 1, e =>
      cases e
      have sb : ∀ (cc : Nat) (yi : XInfo) (D : Addr) (nm' : Str), info.exs[cc]? = some yi → ct cc = some (D, nm') → PySem.W.subIn K (.ref C1) (.ref D) = some (([1, 0, 99] : List Nat).contains cc) := fun cc yi D nm' h1 h2 => by
        match cc, h1, h2 with
        | 0, h1, h2 => cases h1; cases h2; exact xq1_0
        | 1, h1, h2 => cases h1; cases h2; exact xq1_1
        | 2, h1, h2 => cases h1; cases h2; exact xq1_2
        | 3, h1, h2 => cases h1; cases h2; exact xq1_3
        | 4, h1, h2 => cases h1; cases h2; exact xq1_4
        | 5, h1, h2 => cases h1; cases h2; exact xq1_5
        | c + 6, h1, h2 => exact absurd h1 (by simp [info, exns])
      obtain ⟨ni, hf⟩ := xf1
      exact ⟨C1, _, rfl, PySem.W.mg_of X G xa1, xk1, xt1, fun _ => ⟨_, _, _, _, hf, xe1⟩, ⟨xg1, xh1, xb1, xd1, xc1, xn, xtk, xm1⟩, fun f z => (by cases z), sb, xv1, xq1_1, fun f z => (by cases z)⟩
    | 2, e =>
      cases e
      have sb : ∀ (cc : Nat) (yi : XInfo) (D : Addr) (nm' : Str), info.exs[cc]? = some yi → ct cc = some (D, nm') → PySem.W.subIn K (.ref C2) (.ref D) = some (([2, 0, 99] : List Nat).contains cc) := fun cc yi D nm' h1 h2 => by
        match cc, h1, h2 with
        | 0, h1, h2 => cases h1; cases h2; exact xq2_0
        | 1, h1, h2 => cases h1; cases h2; exact xq2_1
        | 2, h1, h2 => cases h1; cases h2; exact xq2_2
        | 3, h1, h2 => cases h1; cases h2; exact xq2_3
        | 4, h1, h2 => cases h1; cases h2; exact xq2_4
        | 5, h1, h2 => cases h1; cases h2; exact xq2_5
        | c + 6, h1, h2 => exact absurd h1 (by simp [info, exns])
      refine ⟨C2, _, rfl, PySem.W.mg_of X G xa2, xk2, xt2, fun z => (by cases z), ⟨xg2, xh2, xb2, xd2, xc2, xn, xtk, xm2⟩, fun f z => (by cases z; exact ⟨rfl, xf2⟩), sb, xv2, xq2_2, fun f z => ?_⟩
      cases z
      exact ⟨⟨⟨_, _, _, _, _, _, _, _, _, _, _, _, _, _, _, xo2, rfl⟩, xs2, xb2, xt2, xk2⟩, fI2, C0, _, _, sI_BadWay, _, _, _, _, _, _, _, _, _, _, _, xi2, xj2, xl2, xy2, tI_BadWay, PySem.W.mg_of X G xa0, xga, xrd, xfc, .all fun us hl => match us, hl with | [_, _], _ => rfl⟩
    | 3, e =>
      cases e
      have sb : ∀ (cc : Nat) (yi : XInfo) (D : Addr) (nm' : Str), info.exs[cc]? = some yi → ct cc = some (D, nm') → PySem.W.subIn K (.ref C3) (.ref D) = some (([3, 0, 99] : List Nat).contains cc) := fun cc yi D nm' h1 h2 => by
        match cc, h1, h2 with
        | 0, h1, h2 => cases h1; cases h2; exact xq3_0
        | 1, h1, h2 => cases h1; cases h2; exact xq3_1
        | 2, h1, h2 => cases h1; cases h2; exact xq3_2
        | 3, h1, h2 => cases h1; cases h2; exact xq3_3
        | 4, h1, h2 => cases h1; cases h2; exact xq3_4
        | 5, h1, h2 => cases h1; cases h2; exact xq3_5
        | c + 6, h1, h2 => exact absurd h1 (by simp [info, exns])
      obtain ⟨ni, hf⟩ := xf3
      exact ⟨C3, _, rfl, PySem.W.mg_of X G xa3, xk3, xt3, fun _ => ⟨_, _, _, _, hf, xe3⟩, ⟨xg3, xh3, xb3, xd3, xc3, xn, xtk, xm3⟩, fun f z => (by cases z), sb, xv3, xq3_3, fun f z => (by cases z)⟩
    | 4, e =>
      cases e
      have sb : ∀ (cc : Nat) (yi : XInfo) (D : Addr) (nm' : Str), info.exs[cc]? = some yi → ct cc = some (D, nm') → PySem.W.subIn K (.ref C4) (.ref D) = some (([4, 0, 99] : List Nat).contains cc) := fun cc yi D nm' h1 h2 => by
        match cc, h1, h2 with
        | 0, h1, h2 => cases h1; cases h2; exact xq4_0
        | 1, h1, h2 => cases h1; cases h2; exact xq4_1
        | 2, h1, h2 => cases h1; cases h2; exact xq4_2
        | 3, h1, h2 => cases h1; cases h2; exact xq4_3
        | 4, h1, h2 => cases h1; cases h2; exact xq4_4
        | 5, h1, h2 => cases h1; cases h2; exact xq4_5
        | c + 6, h1, h2 => exact absurd h1 (by simp [info, exns])
      obtain ⟨ni, hf⟩ := xf4
      exact ⟨C4, _, rfl, PySem.W.mg_of X G xa4, xk4, xt4, fun _ => ⟨_, _, _, _, hf, xe4⟩, ⟨xg4, xh4, xb4, xd4, xc4, xn, xtk, xm4⟩, fun f z => (by cases z), sb, xv4, xq4_4, fun f z => (by cases z)⟩
    | 5, e =>
      cases e
      have sb : ∀ (cc : Nat) (yi : XInfo) (D : Addr) (nm' : Str), info.exs[cc]? = some yi → ct cc = some (D, nm') → PySem.W.subIn K (.ref C5) (.ref D) = some (([5, 0, 99] : List Nat).contains cc) := fun cc yi D nm' h1 h2 => by
        match cc, h1, h2 with
        | 0, h1, h2 => cases h1; cases h2; exact xq5_0
        | 1, h1, h2 => cases h1; cases h2; exact xq5_1
        | 2, h1, h2 => cases h1; cases h2; exact xq5_2
        | 3, h1, h2 => cases h1; cases h2; exact xq5_3
        | 4, h1, h2 => cases h1; cases h2; exact xq5_4
        | 5, h1, h2 => cases h1; cases h2; exact xq5_5
        | c + 6, h1, h2 => exact absurd h1 (by simp [info, exns])
      obtain ⟨ni, hf⟩ := xf5
      exact ⟨C5, _, rfl, PySem.W.mg_of X G xa5, xk5, xt5, fun _ => ⟨_, _, _, _, hf, xe5⟩, ⟨xg5, xh5, xb5, xd5, xc5, xn, xtk, xm5⟩, fun f z => (by cases z), sb, xv5, xq5_5, fun f z => (by cases z)⟩
    | c + 6, e => exact absurd e (by simp [info, exns])
end K30
open PySem PySem.W PyProof.Rows
set_option maxHeartbeats 0 in
theorem PySem.Challenge.cw_copyhands_k30_at_the_edges_holds : PySem.Challenge.rw_copyhands_k30_at_the_edges.Holds := by
  w_on; o_law; k_head; (case hw => w_witness2)
  k_fill
  refine CH.law_end (l := PySem.Challenge.rw_copyhands_k30_at_the_edges) (n := 63) (kk := 211) (li := 40) (x := "_law_script") (I := K30.info) (ds := K30.defs) rfl (by decide) rfl ⟨rfl, by decide, by decide⟩ (fun w h Y => PySem.W.kIn_of Y) (dd := K30.d40) rfl rfl rfl ?F K30.law_true
  case F =>
    intro w mg h KX G
    refine' K30.all_mk KX G ?a0 ?l0 ?c0 ?k0 ?a1 ?l1 ?c1 ?k1 ?a2 ?l2 ?c2 ?k2 ?a3 ?l3 ?c3 ?k3 ?a4 ?l4 ?c4 ?k4 ?a5 ?l5 ?c5 ?k5 ?a6 ?l6 ?c6 ?k6 ?a7 ?l7 ?c7 ?k7 ?a8 ?l8 ?c8 ?k8 ?a9 ?l9 ?c9 ?k9 ?a10 ?l10 ?c10 ?k10 ?a11 ?l11 ?c11 ?k11 ?a12 ?l12 ?c12 ?k12 ?a13 ?l13 ?c13 ?k13 ?a14 ?l14 ?c14 ?k14 ?a15 ?l15 ?c15 ?k15 ?a16 ?l16 ?c16 ?k16 ?a17 ?l17 ?ld17 ?c17 ?k17 ?a18 ?l18 ?c18 ?k18 ?a19 ?l19 ?c19 ?k19 ?a20 ?l20 ?c20 ?k20 ?a21 ?l21 ?c21 ?k21 ?a22 ?l22 ?c22 ?k22 ?a23 ?l23 ?c23 ?k23 ?a24 ?l24 ?c24 ?k24 ?a25 ?l25 ?c25 ?k25 ?a26 ?l26 ?c26 ?k26 ?a27 ?l27 ?c27 ?k27 ?a28 ?l28 ?c28 ?k28 ?a29 ?l29 ?c29 ?k29 ?a30 ?l30 ?c30 ?k30 ?a31 ?l31 ?c31 ?k31 ?a32 ?l32 ?c32 ?k32 ?a33 ?l33 ?c33 ?k33 ?a34 ?l34 ?c34 ?k34 ?a35 ?l35 ?c35 ?k35 ?a36 ?l36 ?c36 ?k36 ?a37 ?l37 ?c37 ?k37 ?a38 ?l38 ?c38 ?k38 ?a39 ?l39 ?c39 ?k39 ?a40 ?l40 ?c40 ?k40 ?z_len ?z_list ?z_tuple ?z_sorted ?z_str ?z_isinstance ?z_int ?z_bool ?z_set ?z_range ?z_enumerate ?z_zip ?z_reversed ?z_max ?z_ValueError ?xn ?xtk ?xa0 ?xk0 ?xt0 ?xb0 ?xg0 ?xh0 ?xd0 ?xc0 ?xm0 ?xv0 ?xe0 ?xa1 ?xk1 ?xt1 ?xb1 ?xg1 ?xh1 ?xd1 ?xc1 ?xm1 ?xv1 ?xe1 ?xa2 ?xk2 ?xt2 ?xb2 ?xg2 ?xh2 ?xd2 ?xc2 ?xm2 ?xv2 ?xf2 ?xo2 ?xs2 ?xi2 ?xj2 ?xl2 ?xy2 ?xa3 ?xk3 ?xt3 ?xb3 ?xg3 ?xh3 ?xd3 ?xc3 ?xm3 ?xv3 ?xe3 ?xa4 ?xk4 ?xt4 ?xb4 ?xg4 ?xh4 ?xd4 ?xc4 ?xm4 ?xv4 ?xe4 ?xa5 ?xk5 ?xt5 ?xb5 ?xg5 ?xh5 ?xd5 ?xc5 ?xm5 ?xv5 ?xe5 ?xga ?xrd ?xfc ?xq0_0 ?xq0_1 ?xq0_2 ?xq0_3 ?xq0_4 ?xq0_5 ?xq1_0 ?xq1_1 ?xq1_2 ?xq1_3 ?xq1_4 ?xq1_5 ?xq2_0 ?xq2_1 ?xq2_2 ?xq2_3 ?xq2_4 ?xq2_5 ?xq3_0 ?xq3_1 ?xq3_2 ?xq3_3 ?xq3_4 ?xq3_5 ?xq4_0 ?xq4_1 ?xq4_2 ?xq4_3 ?xq4_4 ?xq4_5 ?xq5_0 ?xq5_1 ?xq5_2 ?xq5_3 ?xq5_4 ?xq5_5 ?gl0 ?gl1 ?gl2 ?gl3 ?gl4 ⟨_, PySem.F.excBase_ValueError⟩ ⟨_, PySem.F.excBase_ValueError⟩ ⟨_, PySem.F.excBase_ValueError⟩ ⟨_, PySem.F.excBase_ValueError⟩ ⟨_, PySem.F.excBase_ValueError⟩
    (case a0 => k_is)
    (case l0 => k_is)
    (case c0 => k_is)
    (case k0 => k_is)
    (case a1 => k_is)
    (case l1 => k_is)
    (case c1 => k_is)
    (case k1 => k_is)
    (case a2 => k_is)
    (case l2 => k_is)
    (case c2 => k_is)
    (case k2 => k_is)
    (case a3 => k_is)
    (case l3 => k_is)
    (case c3 => k_is)
    (case k3 => k_is)
    (case a4 => k_is)
    (case l4 => k_is)
    (case c4 => k_is)
    (case k4 => k_is)
    (case a5 => k_is)
    (case l5 => k_is)
    (case c5 => k_is)
    (case k5 => k_is)
    (case a6 => k_is)
    (case l6 => k_is)
    (case c6 => k_is)
    (case k6 => k_is)
    (case a7 => k_is)
    (case l7 => k_is)
    (case c7 => k_is)
    (case k7 => k_is)
    (case a8 => k_is)
    (case l8 => k_is)
    (case c8 => k_is)
    (case k8 => k_is)
    (case a9 => k_is)
    (case l9 => k_is)
    (case c9 => k_is)
    (case k9 => k_is)
    (case a10 => k_is)
    (case l10 => k_is)
    (case c10 => k_is)
    (case k10 => k_is)
    (case a11 => k_is)
    (case l11 => k_is)
    (case c11 => k_is)
    (case k11 => k_is)
    (case a12 => k_is)
    (case l12 => k_is)
    (case c12 => k_is)
    (case k12 => k_is)
    (case a13 => k_is)
    (case l13 => k_is)
    (case c13 => k_is)
    (case k13 => k_is)
    (case a14 => k_is)
    (case l14 => k_is)
    (case c14 => k_is)
    (case k14 => k_is)
    (case a15 => k_is)
    (case l15 => k_is)
    (case c15 => k_is)
    (case k15 => k_is)
    (case a16 => k_is)
    (case l16 => k_is)
    (case c16 => k_is)
    (case k16 => k_is)
    (case a17 => k_is)
    (case l17 => k_is)
    (case ld17 => k_is)
    (case c17 => k_is)
    (case k17 => k_is)
    (case a18 => k_is)
    (case l18 => k_is)
    (case c18 => k_is)
    (case k18 => k_is)
    (case a19 => k_is)
    (case l19 => k_is)
    (case c19 => k_is)
    (case k19 => k_is)
    (case a20 => k_is)
    (case l20 => k_is)
    (case c20 => k_is)
    (case k20 => k_is)
    (case a21 => k_is)
    (case l21 => k_is)
    (case c21 => k_is)
    (case k21 => k_is)
    (case a22 => k_is)
    (case l22 => k_is)
    (case c22 => k_is)
    (case k22 => k_is)
    (case a23 => k_is)
    (case l23 => k_is)
    (case c23 => k_is)
    (case k23 => k_is)
    (case a24 => k_is)
    (case l24 => k_is)
    (case c24 => k_is)
    (case k24 => k_is)
    (case a25 => k_is)
    (case l25 => k_is)
    (case c25 => k_is)
    (case k25 => k_is)
    (case a26 => k_is)
    (case l26 => k_is)
    (case c26 => k_is)
    (case k26 => k_is)
    (case a27 => k_is)
    (case l27 => k_is)
    (case c27 => k_is)
    (case k27 => k_is)
    (case a28 => k_is)
    (case l28 => k_is)
    (case c28 => k_is)
    (case k28 => k_is)
    (case a29 => k_is)
    (case l29 => k_is)
    (case c29 => k_is)
    (case k29 => k_is)
    (case a30 => k_is)
    (case l30 => k_is)
    (case c30 => k_is)
    (case k30 => k_is)
    (case a31 => k_is)
    (case l31 => k_is)
    (case c31 => k_is)
    (case k31 => k_is)
    (case a32 => k_is)
    (case l32 => k_is)
    (case c32 => k_is)
    (case k32 => k_is)
    (case a33 => k_is)
    (case l33 => k_is)
    (case c33 => k_is)
    (case k33 => k_is)
    (case a34 => k_is)
    (case l34 => k_is)
    (case c34 => k_is)
    (case k34 => k_is)
    (case a35 => k_is)
    (case l35 => k_is)
    (case c35 => k_is)
    (case k35 => k_is)
    (case a36 => k_is)
    (case l36 => k_is)
    (case c36 => k_is)
    (case k36 => k_is)
    (case a37 => k_is)
    (case l37 => k_is)
    (case c37 => k_is)
    (case k37 => k_is)
    (case a38 => k_is)
    (case l38 => k_is)
    (case c38 => k_is)
    (case k38 => k_is)
    (case a39 => k_is)
    (case l39 => k_is)
    (case c39 => k_is)
    (case k39 => k_is)
    (case a40 => k_is)
    (case l40 => k_is)
    (case c40 => k_is)
    (case k40 => k_is)
    (case z_len => k_is)
    (case z_list => k_is)
    (case z_tuple => k_is)
    (case z_sorted => k_is)
    (case z_str => k_is)
    (case z_isinstance => k_is)
    (case z_int => k_is)
    (case z_bool => k_is)
    (case z_set => k_is)
    (case z_range => k_is)
    (case z_enumerate => k_is)
    (case z_zip => k_is)
    (case z_reversed => k_is)
    (case z_max => k_is)
    (case z_ValueError => k_is)
    (case xn => k_is)
    (case xtk => k_is)
    (case xa0 => k_is)
    (case xk0 => k_is)
    (case xt0 => k_is)
    (case xb0 => k_is)
    (case xg0 => k_is)
    (case xh0 => k_is)
    (case xd0 => k_is)
    (case xc0 => k_is)
    (case xm0 => k_is)
    (case xv0 => k_is)
    (case xe0 => k_exc)
    (case xa1 => k_is)
    (case xk1 => k_is)
    (case xt1 => k_is)
    (case xb1 => k_is)
    (case xg1 => k_is)
    (case xh1 => k_is)
    (case xd1 => k_is)
    (case xc1 => k_is)
    (case xm1 => k_is)
    (case xv1 => k_is)
    (case xe1 => k_exc)
    (case xa2 => k_is)
    (case xk2 => k_is)
    (case xt2 => k_is)
    (case xb2 => k_is)
    (case xg2 => k_is)
    (case xh2 => k_is)
    (case xd2 => k_is)
    (case xc2 => k_is)
    (case xm2 => k_is)
    (case xv2 => k_is)
    (case xf2 => k_is)
    (case xo2 => k_is)
    (case xs2 => k_is)
    (case xi2 => k_is)
    (case xj2 => k_is)
    (case xl2 => k_is)
    (case xy2 => k_is)
    (case xa3 => k_is)
    (case xk3 => k_is)
    (case xt3 => k_is)
    (case xb3 => k_is)
    (case xg3 => k_is)
    (case xh3 => k_is)
    (case xd3 => k_is)
    (case xc3 => k_is)
    (case xm3 => k_is)
    (case xv3 => k_is)
    (case xe3 => k_exc)
    (case xa4 => k_is)
    (case xk4 => k_is)
    (case xt4 => k_is)
    (case xb4 => k_is)
    (case xg4 => k_is)
    (case xh4 => k_is)
    (case xd4 => k_is)
    (case xc4 => k_is)
    (case xm4 => k_is)
    (case xv4 => k_is)
    (case xe4 => k_exc)
    (case xa5 => k_is)
    (case xk5 => k_is)
    (case xt5 => k_is)
    (case xb5 => k_is)
    (case xg5 => k_is)
    (case xh5 => k_is)
    (case xd5 => k_is)
    (case xc5 => k_is)
    (case xm5 => k_is)
    (case xv5 => k_is)
    (case xe5 => k_exc)
    (case xga => k_is)
    (case xrd => k_is)
    (case xfc => k_is)
    (case xq0_0 => k_is)
    (case xq0_1 => k_is)
    (case xq0_2 => k_is)
    (case xq0_3 => k_is)
    (case xq0_4 => k_is)
    (case xq0_5 => k_is)
    (case xq1_0 => k_is)
    (case xq1_1 => k_is)
    (case xq1_2 => k_is)
    (case xq1_3 => k_is)
    (case xq1_4 => k_is)
    (case xq1_5 => k_is)
    (case xq2_0 => k_is)
    (case xq2_1 => k_is)
    (case xq2_2 => k_is)
    (case xq2_3 => k_is)
    (case xq2_4 => k_is)
    (case xq2_5 => k_is)
    (case xq3_0 => k_is)
    (case xq3_1 => k_is)
    (case xq3_2 => k_is)
    (case xq3_3 => k_is)
    (case xq3_4 => k_is)
    (case xq3_5 => k_is)
    (case xq4_0 => k_is)
    (case xq4_1 => k_is)
    (case xq4_2 => k_is)
    (case xq4_3 => k_is)
    (case xq4_4 => k_is)
    (case xq4_5 => k_is)
    (case xq5_0 => k_is)
    (case xq5_1 => k_is)
    (case xq5_2 => k_is)
    (case xq5_3 => k_is)
    (case xq5_4 => k_is)
    (case xq5_5 => k_is)
    (case gl0 => k_is)
    (case gl1 => k_is)
    (case gl2 => k_is)
    (case gl3 => k_is)
    (case gl4 => k_is)

