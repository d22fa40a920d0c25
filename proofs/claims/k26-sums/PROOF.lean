import PyProof.Rows.All
import Wide.All
import OpenK.AllK
import Wide.FinOn
import HandS.ForMost
import HandS.Deep
import HandS.ExcInit
import HandS.WordsExc
import HandS.IsInst
import HandS.TupAny
import HandS.Rev
import HandS.Flow
import HandS.TupLe
import HandS.Style
import HandS.SetKeys
import HandS.Strs
import HandS.SortKw
import HandS.CallSlots
import KE.DataEq
import KE.KxMul
import KE.SortCalls
import HandS.Defaults
import HandS.EndBits
import PySem.Challenge.RW_copyhands_k26_whole_sums_and_products
set_option Elab.async false
set_option linter.all false
set_option maxRecDepth 100000
set_option maxHeartbeats 2000000
/-! CH 1: data over the abstract heap. -/
namespace CH
open PySem PySem.Spec PyProof.Rows L2

abbrev D := PyData

/-- what a piece of the program comes to: a value, an exception (its class by number, what it bears), or nothing told -/
inductive R (α : Type) where
  | ok (a : α)
  | exc (c : Nat) (f : Option D)
  | stuck

def R.bind {α β : Type} (r : R α) (k : α → R β) : R β := match r with
  | .ok a => k a
  | .exc c f => .exc c f
  | .stuck => .stuck

/-- a slot: unassigned, a datum, a list of one's own (it may be changed), a caught exception -/
inductive Sl where
  | no
  | dat (d : D)
  | own (ds : List D)
  | exc (c : Nat) (f : Option D)

/-- the heap grew: B, the part of H that never changes -/
structure Ext (B H B' H' : Hp) : Prop where
  bb : Same B B'
  hh : Same H H'
  bh : Same B' H'
  nb : ∀ a, H a ≠ none → B a = none → B' a = none
theorem Ext.refl {B H : Hp} (h : Same B H) : Ext B H B H := ⟨Same.refl _, Same.refl _, h, fun _ _ h => h⟩
theorem Ext.trans {B H B1 H1 B2 H2 : Hp} (a : Ext B H B1 H1) (b : Ext B1 H1 B2 H2) : Ext B H B2 H2 :=
  ⟨a.bb.trans b.bb, a.hh.trans b.hh, b.bh, fun c h n => b.nb c (by
    cases e : H c with
    | none => exact absurd e h
    | some o => rw [a.hh c o e]; exact fun z => nomatch z) (a.nb c h n)⟩
theorem upd_free {H : Hp} {p : Addr} {o : HO} (np : H p = none) : Same H (upd H p o) := fun b x e => by
  rw [upd_ne (ne_of_none e np)]
  exact e
theorem free_of {B H : Hp} (s : Same B H) {p : Addr} (np : H p = none) : B p = none := s.free np
/-- a new object is laid -/
theorem Ext.new {B H : Hp} (s : Same B H) {p : Addr} {o : HO} (np : H p = none) : Ext B H (upd B p o) (upd H p o) := by
  have nb := s.free np
  refine ⟨upd_free nb, upd_free np, fun b x e => ?_, fun a h n => ?_⟩
  · by_cases hb : b = p
    · rw [hb, upd_same] at e ⊢
      exact e
    · rw [upd_ne hb] at e ⊢
      exact s b x e
  · have hb : a ≠ p := fun z => h (z ▸ np)
    rw [upd_ne hb]
    exact n

end CH
namespace L2
open PySem PySem.Spec PyProof.Rows CH
theorem Same.seqT {K : PySem.W.Frag} {H H' : Hp} {a : Addr} {xs : List V} (e : Same H H') (h : SqT K H a xs) : SqT K H' a xs := by
  rcases h with (h | ⟨o, h⟩) | h
  · exact .inl (.inl (e _ _ h))
  · exact .inl (.inr ⟨o, e _ _ h⟩)
  · exact .inr h
mutual
theorem Dp.same {K : PySem.W.Frag} {H H' : Hp} {v : V} {d : D} (x : Dp K H v d) (e : Same H H') : Dp K H' v d := match x with
  | .non => .non
  | .bl b => .bl b
  | .int i => .int i
  | .str x => .str x
  | .lst h r => .lst (e.seq h) (DpAll.same r e)
  | .tup h r => .tup (e.seqT h) (DpAll.same r e)
theorem DpAll.same {K : PySem.W.Frag} {H H' : Hp} {vs : List V} {ds : List D} (x : DpAll K H vs ds) (e : Same H H') : DpAll K H' vs ds := match x with
  | .nil => .nil
  | .cons h r => .cons (Dp.same h e) (DpAll.same r e)
end
section
variable {K : PySem.W.Frag} {H : Hp}
theorem DpAll.length : ∀ {vs : List V} {ds : List D}, DpAll K H vs ds → vs.length = ds.length
  | _, _, .nil => rfl
  | _, _, .cons _ r => congrArg Nat.succ (DpAll.length r)
theorem DpAll.get : ∀ {vs : List V} {ds : List D} {i : Nat} {d : D}, DpAll K H vs ds → ds[i]? = some d → ∃ v, vs[i]? = some v ∧ Dp K H v d
  | _, _, _, _, .nil, e => by simp at e
  | _, _, 0, _, .cons h _, e => by simp at e; subst e; exact ⟨_, rfl, h⟩
  | _, _, i + 1, _, .cons _ r, e => by
    obtain ⟨v, h1, h2⟩ := DpAll.get (i := i) r (by simpa using e)
    exact ⟨v, by simpa using h1, h2⟩
theorem DpAll.get' : ∀ {vs : List V} {ds : List D} {i : Nat} {v : V}, DpAll K H vs ds → vs[i]? = some v → ∃ d, ds[i]? = some d ∧ Dp K H v d
  | _, _, _, _, .nil, e => by simp at e
  | _, _, 0, _, .cons h _, e => by simp at e; subst e; exact ⟨_, rfl, h⟩
  | _, _, i + 1, _, .cons _ r, e => by
    obtain ⟨v, h1, h2⟩ := DpAll.get' (i := i) r (by simpa using e)
    exact ⟨v, by simpa using h1, h2⟩
theorem DpAll.append : ∀ {vs ws : List V} {ds es : List D}, DpAll K H vs ds → DpAll K H ws es → DpAll K H (vs ++ ws) (ds ++ es)
  | _, _, _, _, .nil, s => s
  | _, _, _, _, .cons h r, s => .cons h (DpAll.append r s)
theorem DpAll.take : ∀ {vs : List V} {ds : List D} (n : Nat), DpAll K H vs ds → DpAll K H (vs.take n) (ds.take n)
  | _, _, 0, _ => .nil
  | _, _, _ + 1, .nil => .nil
  | _, _, n + 1, .cons h r => .cons h (DpAll.take n r)
theorem DpAll.drop : ∀ {vs : List V} {ds : List D} (n : Nat), DpAll K H vs ds → DpAll K H (vs.drop n) (ds.drop n)
  | _, _, 0, r => r
  | _, _, _ + 1, .nil => .nil
  | _, _, n + 1, .cons _ r => DpAll.drop n r
theorem DpAll.reverse {vs : List V} : ∀ {ds : List D}, DpAll K H vs ds → DpAll K H vs.reverse ds.reverse := by
  induction vs with
  | nil => intro ds h; cases h; exact .nil
  | cons v vs ih =>
    intro ds h
    cases h with
    | cons h r => rw [List.reverse_cons, List.reverse_cons]; exact DpAll.append (ih r) (.cons h .nil)
theorem DpAll.rep {vs : List V} {ds : List D} (h : DpAll K H vs ds) : ∀ k : Nat, DpAll K H (List.replicate k vs).flatten (List.replicate k ds).flatten
  | 0 => .nil
  | k + 1 => by
    rw [List.replicate_succ, List.replicate_succ, List.flatten_cons, List.flatten_cons]
    exact DpAll.append h (DpAll.rep h k)
theorem DpAll.eraseIdx : ∀ {vs : List V} {ds : List D} (i : Nat), DpAll K H vs ds → DpAll K H (vs.eraseIdx i) (ds.eraseIdx i)
  | _, _, _, .nil => .nil
  | _, _, 0, .cons _ t => t
  | _, _, i + 1, .cons r t => .cons r (DpAll.eraseIdx i t)
mutual
theorem Dp.plain : ∀ {v : V} {d : D}, Dp K H v d → d.plain = true
  | _, _, .non => rfl
  | _, _, .bl b => rfl
  | _, _, .int i => rfl
  | _, _, .str x => rfl
  | _, _, .lst h r => by rw [PyData.plain]; exact DpAll.plain r
  | _, _, .tup h r => by rw [PyData.plain]; exact DpAll.plain r
theorem DpAll.plain : ∀ {vs : List V} {ds : List D}, DpAll K H vs ds → PyData.plainAll ds = true
  | _, _, .nil => rfl
  | _, _, .cons h r => by rw [PyData.plainAll, Dp.plain h, DpAll.plain r]; rfl
end
theorem Dp.tup_new {p : Addr} {vs : List V} {ds : List D} (h : DpAll K (upd H p (.tup vs)) vs ds) : Dp K (upd H p (.tup vs)) (.ref p) (.tuple ds) := .tup (.inl (.inl upd_same)) h
theorem Dp.lst_new {p : Addr} {vs : List V} {ds : List D} (h : DpAll K (upd H p (.lst vs)) vs ds) : Dp K (upd H p (.lst vs)) (.ref p) (.list ds) := .lst (.inl (.inl upd_same)) h
end

end L2
namespace CH
open PySem PySem.Spec PyProof.Rows L2
/-- the slots hold the data ρ; what a caught exception is: sx tells -/
structure Rel (K : PySem.W.Frag) (sx : Option (Addr × Nat × Option Addr × Str)) (B H : Hp) (σ : L2.St) (ρ : List Sl) : Prop where
  len : σ.length = ρ.length
  sub : Same B H
  dat : ∀ (i : Nat) (d : D), ρ[i]? = some (Sl.dat d) → ∃ v, σ[i]? = some (some v) ∧ Dp K B v d
  own : ∀ (i : Nat) (ds : List D), ρ[i]? = some (Sl.own ds) → ∃ a xs, σ[i]? = some (some (V.ref a)) ∧ H a = some (HO.lst xs) ∧ B a = none ∧ DpAll K B xs ds
  sep : ∀ (i j : Nat) (ds es : List D) (a : Addr), ρ[i]? = some (Sl.own ds) → ρ[j]? = some (Sl.own es) → σ[i]? = some (some (V.ref a)) → σ[j]? = some (some (V.ref a)) → i = j
  exc : ∀ (i c : Nat) (f : Option D), ρ[i]? = some (Sl.exc c f) → ∃ a dx nm, sx = some (a, c, dx, nm) ∧ σ[i]? = some (some (V.ref a)) ∧ ∀ d, f = some d → ∃ x v, dx = some x ∧ B x = some (HO.xd [(nm, v)]) ∧ Dp K B v d
theorem Rel.ext {K : PySem.W.Frag} {sx} {B H B' H' : Hp} {σ : L2.St} {ρ : List Sl} (r : Rel K sx B H σ ρ) (e : Ext B H B' H') : Rel K sx B' H' σ ρ := by
  refine ⟨r.len, e.bh, fun i d h => ?_, fun i ds h => ?_, r.sep, fun i c f h => ?_⟩
  · obtain ⟨v, h1, h2⟩ := r.dat i d h
    exact ⟨v, h1, h2.same e.bb⟩
  · obtain ⟨a, xs, h1, h2, h3, h4⟩ := r.own i ds h
    exact ⟨a, xs, h1, e.hh _ _ h2, e.nb a (by rw [h2]; exact fun z => nomatch z) h3, h4.same e.bb⟩
  · obtain ⟨a, dx, nm, h1, h2, h3⟩ := r.exc i c f h
    refine ⟨a, dx, nm, h1, h2, fun d hd => ?_⟩
    obtain ⟨x, v, h4, h5, h6⟩ := h3 d hd
    exact ⟨x, v, h4, e.bb _ _ h5, h6.same e.bb⟩

/-- an exception's class (by number: its address, its field's name) and what it bears -/
structure ExcAt (K : PySem.W.Frag) (ct : Nat → Option (Addr × Str)) (B : Hp) (c : Nat) (f : Option D) (cls : Value) (dx : Option Addr) : Prop where
  at_ : ∃ C nm, ct c = some (C, nm) ∧ cls = .ref C ∧ (f = none → dx = none) ∧ ∀ d, f = some d → ∃ x v, dx = some x ∧ B x = some (.xd [(nm, v)]) ∧ Dp K B v d

/-- what stands around: the table of exception classes, the exception in hand, the wish for exceptions -/
structure Wd where
  K : PySem.W.Frag
  ct : Nat → Option (Addr × Str)
  sx : Option (Addr × Nat × Option Addr × Str)
  W : WX

/-- what must hold that a piece which comes to r ends so -/
def Ev (w : Wd) (B H : Hp) (σ : L2.St) (Q : VK) : R D → Prop
  | .ok d => ∀ v B' H', Ext B H B' H' → Dp w.K B' v d → Q v H'
  | .exc c f => ∀ cls dx B' H', Ext B H B' H' → ExcAt w.K w.ct B' c f cls dx → w.W cls dx σ H'
  | .stuck => False
def EvA (w : Wd) (B H : Hp) (σ : L2.St) (Q : List V → Hp → Prop) : R (List D) → Prop
  | .ok ds => ∀ vs B' H', Ext B H B' H' → DpAll w.K B' vs ds → Q vs H'
  | .exc c f => ∀ cls dx B' H', Ext B H B' H' → ExcAt w.K w.ct B' c f cls dx → w.W cls dx σ H'
  | .stuck => False
def EvT (w : Wd) (B H : Hp) (σ : L2.St) (Q : Bool → Hp → Prop) : R Bool → Prop
  | .ok b => ∀ B' H', Ext B H B' H' → Q b H'
  | .exc c f => ∀ cls dx B' H', Ext B H B' H' → ExcAt w.K w.ct B' c f cls dx → w.W cls dx σ H'
  | .stuck => False

abbrev M (α : Type) := List Sl → R α
def tE (w : Wd) (m : M D) : TE := fun σ H Q => ∃ B ρ, Rel w.K w.sx B H σ ρ ∧ Ev w B H σ Q (m ρ)
def tA (w : Wd) (m : M (List D)) : TA := fun σ H Q => ∃ B ρ, Rel w.K w.sx B H σ ρ ∧ EvA w B H σ Q (m ρ)
def tT (w : Wd) (m : M Bool) : TT := fun σ H Q => ∃ B ρ, Rel w.K w.sx B H σ ρ ∧ EvT w B H σ Q (m ρ)

theorem Ev.mono {w : Wd} {B H B1 H1 : Hp} {σ : L2.St} {Q : VK} {r : R D} (e : Ext B H B1 H1) (h : Ev w B H σ Q r) : Ev w B1 H1 σ Q r := by
  cases r with
  | ok d => exact fun v B' H' e' => h v B' H' (e.trans e')
  | exc c f => exact fun cls dx B' H' e' => h cls dx B' H' (e.trans e')
  | stuck => exact h
theorem EvA.mono {w : Wd} {B H B1 H1 : Hp} {σ : L2.St} {Q : List V → Hp → Prop} {r : R (List D)} (e : Ext B H B1 H1) (h : EvA w B H σ Q r) : EvA w B1 H1 σ Q r := by
  cases r with
  | ok d => exact fun v B' H' e' => h v B' H' (e.trans e')
  | exc c f => exact fun cls dx B' H' e' => h cls dx B' H' (e.trans e')
  | stuck => exact h
theorem EvT.mono {w : Wd} {B H B1 H1 : Hp} {σ : L2.St} {Q : Bool → Hp → Prop} {r : R Bool} (e : Ext B H B1 H1) (h : EvT w B H σ Q r) : EvT w B1 H1 σ Q r := by
  cases r with
  | ok d => exact fun B' H' e' => h B' H' (e.trans e')
  | exc c f => exact fun cls dx B' H' e' => h cls dx B' H' (e.trans e')
  | stuck => exact h

theorem PE.imp {X : Cx} {e : Expr} {t t' : TE} (h : PE X e t) (i : ∀ σ H Q, t' σ H Q → t σ H Q) : PE X e t' := ⟨fun pins s σ H Q I q => h.run pins s σ H Q I (i _ _ _ q)⟩
theorem PA.imp {X : Cx} {e : List Expr} {t t' : TA} (h : PA X e t) (i : ∀ σ H Q, t' σ H Q → t σ H Q) : PA X e t' := ⟨fun pos pins s σ H Q I q => h.run pos pins s σ H Q I (i _ _ _ q)⟩
theorem PT.imp {X : Cx} {e : Expr} {t t' : TT} (h : PT X e t) (i : ∀ σ H Q, t' σ H Q → t σ H Q) : PT X e t' := ⟨fun pins s σ H Q I q => h.run pins s σ H Q I (i _ _ _ q)⟩
theorem PW.imp {X : Cx} {e : Expr} {t t' : TT} (h : PW X e t) (i : ∀ σ H Q, t' σ H Q → t σ H Q) : PW X e t' := ⟨fun wh pins s σ H Q I q => h.run wh pins s σ H Q I (i _ _ _ q)⟩
theorem PS.imp {X : Cx} {e : Stmt} {t t' : TS} (h : PS X e t) (i : ∀ D σ H, t' D σ H → t D σ H) : PS X e t' := ⟨fun pins s σ H D I q => h.run pins s σ H D I (i _ _ _ q)⟩
theorem PSs.imp {X : Cx} {e : List Stmt} {t t' : TS} (h : PSs X e t) (i : ∀ D σ H, t' D σ H → t D σ H) : PSs X e t' := ⟨fun pins s σ H D I q => h.run pins s σ H D I (i _ _ _ q)⟩

/-- the first piece, then the second -/
theorem tE_bind {w : Wd} {B H : Hp} {σ : L2.St} {ρ : List Sl} {m : M D} {k : D → R D} {Q : VK} (r : Rel w.K w.sx B H σ ρ) (h : Ev w B H σ Q ((m ρ).bind k)) :
    tE w m σ H (fun v H' => ∃ d B', m ρ = .ok d ∧ Ext B H B' H' ∧ Dp w.K B' v d ∧ Ev w B' H' σ Q (k d)) := by
  refine ⟨B, ρ, r, ?_⟩
  cases e : m ρ with
  | ok d =>
    rw [e] at h
    exact fun v B' H' x hd => ⟨d, B', rfl, x, hd, Ev.mono x h⟩
  | exc c f => rw [e] at h; exact h
  | stuck => rw [e] at h; exact h
theorem tE_bindT {w : Wd} {B H : Hp} {σ : L2.St} {ρ : List Sl} {m : M D} {k : D → R Bool} {Q : Bool → Hp → Prop} (r : Rel w.K w.sx B H σ ρ) (h : EvT w B H σ Q ((m ρ).bind k)) :
    tE w m σ H (fun v H' => ∃ d B', m ρ = .ok d ∧ Ext B H B' H' ∧ Dp w.K B' v d ∧ EvT w B' H' σ Q (k d)) := by
  refine ⟨B, ρ, r, ?_⟩
  cases e : m ρ with
  | ok d =>
    rw [e] at h
    exact fun v B' H' x hd => ⟨d, B', rfl, x, hd, EvT.mono x h⟩
  | exc c f => rw [e] at h; exact h
  | stuck => rw [e] at h; exact h
theorem tE_bindA {w : Wd} {B H : Hp} {σ : L2.St} {ρ : List Sl} {m : M D} {k : D → R (List D)} {Q : List V → Hp → Prop} (r : Rel w.K w.sx B H σ ρ) (h : EvA w B H σ Q ((m ρ).bind k)) :
    tE w m σ H (fun v H' => ∃ d B', m ρ = .ok d ∧ Ext B H B' H' ∧ Dp w.K B' v d ∧ EvA w B' H' σ Q (k d)) := by
  refine ⟨B, ρ, r, ?_⟩
  cases e : m ρ with
  | ok d =>
    rw [e] at h
    exact fun v B' H' x hd => ⟨d, B', rfl, x, hd, EvA.mono x h⟩
  | exc c f => rw [e] at h; exact h
  | stuck => rw [e] at h; exact h
theorem tA_bind {w : Wd} {B H : Hp} {σ : L2.St} {ρ : List Sl} {m : M (List D)} {k : List D → R D} {Q : VK} (r : Rel w.K w.sx B H σ ρ) (h : Ev w B H σ Q ((m ρ).bind k)) :
    tA w m σ H (fun v H' => ∃ d B', m ρ = .ok d ∧ Ext B H B' H' ∧ DpAll w.K B' v d ∧ Ev w B' H' σ Q (k d)) := by
  refine ⟨B, ρ, r, ?_⟩
  cases e : m ρ with
  | ok d =>
    rw [e] at h
    exact fun v B' H' x hd => ⟨d, B', rfl, x, hd, Ev.mono x h⟩
  | exc c f => rw [e] at h; exact h
  | stuck => rw [e] at h; exact h
theorem tA_bindA {w : Wd} {B H : Hp} {σ : L2.St} {ρ : List Sl} {m : M (List D)} {k : List D → R (List D)} {Q : List V → Hp → Prop} (r : Rel w.K w.sx B H σ ρ) (h : EvA w B H σ Q ((m ρ).bind k)) :
    tA w m σ H (fun v H' => ∃ d B', m ρ = .ok d ∧ Ext B H B' H' ∧ DpAll w.K B' v d ∧ EvA w B' H' σ Q (k d)) := by
  refine ⟨B, ρ, r, ?_⟩
  cases e : m ρ with
  | ok d =>
    rw [e] at h
    exact fun v B' H' x hd => ⟨d, B', rfl, x, hd, EvA.mono x h⟩
  | exc c f => rw [e] at h; exact h
  | stuck => rw [e] at h; exact h
theorem tT_bind {w : Wd} {B H : Hp} {σ : L2.St} {ρ : List Sl} {m : M Bool} {k : Bool → R D} {Q : VK} (r : Rel w.K w.sx B H σ ρ) (h : Ev w B H σ Q ((m ρ).bind k)) :
    tT w m σ H (fun b H' => ∃ B', m ρ = .ok b ∧ Ext B H B' H' ∧ Ev w B' H' σ Q (k b)) := by
  refine ⟨B, ρ, r, ?_⟩
  cases e : m ρ with
  | ok d =>
    rw [e] at h
    exact fun B' H' x => ⟨B', rfl, x, Ev.mono x h⟩
  | exc c f => rw [e] at h; exact h
  | stuck => rw [e] at h; exact h
theorem tT_bindT {w : Wd} {B H : Hp} {σ : L2.St} {ρ : List Sl} {m : M Bool} {k : Bool → R Bool} {Q : Bool → Hp → Prop} (r : Rel w.K w.sx B H σ ρ) (h : EvT w B H σ Q ((m ρ).bind k)) :
    tT w m σ H (fun b H' => ∃ B', m ρ = .ok b ∧ Ext B H B' H' ∧ EvT w B' H' σ Q (k b)) := by
  refine ⟨B, ρ, r, ?_⟩
  cases e : m ρ with
  | ok d =>
    rw [e] at h
    exact fun B' H' x => ⟨B', rfl, x, EvT.mono x h⟩
  | exc c f => rw [e] at h; exact h
  | stuck => rw [e] at h; exact h
end CH

/-! CH 2: what operators do to data. -/
namespace CH
open PySem PySem.Spec PyProof.Rows L2

/-- lists and texts of at most so many items -/
abbrev lim : Nat := 1000000
theorem lim_line : lim + lim ≤ sizeLine := by rw [sizeLine_eq]; decide

/-- a number within ± m, so written that nothing is computed of an unknown one -/
def smI (m : Nat) : Int → Bool
  | .ofNat n => Nat.ble n m
  | .negSucc n => Nat.ble (n + 1) m
theorem smI_iff {m : Nat} {j : Int} : smI m j = true ↔ -(m : Int) ≤ j ∧ j ≤ m := by
  cases j with
  | ofNat n => show Nat.ble n m = true ↔ -(m : Int) ≤ (n : Int) ∧ (n : Int) ≤ m; rw [Nat.ble_eq]; omega
  | negSucc n => show Nat.ble (n + 1) m = true ↔ _; rw [Nat.ble_eq, Int.negSucc_eq]; omega
def dAdd : D → D → Option D
  | .int i, .int j => some (.int (i + j))
  | .str a, .str b => if a.length + b.length ≤ lim then some (.str (a ++ b)) else none
  | .tuple a, .tuple b => if a.length + b.length ≤ lim then some (.tuple (a ++ b)) else none
  | .list a, .list b => if a.length + b.length ≤ lim then some (.list (a ++ b)) else none
  | _, _ => none
def dSub : D → D → Option D
  | .int i, .int j => some (.int (i - j))
  | _, _ => none
def strRep (a : Str) (n : Nat) : Str := ⟨(List.replicate n a.cps.toList).flatten.toArray⟩
def dMul : D → D → Option D
  | .int i, .int j => if smI 1000000000000 j = true then some (.int (i * j)) else none
  | .str a, .int n => if 0 ≤ n ∧ n ≤ 1000 ∧ a.length ≤ 1000 then some (.str (strRep a n.toNat)) else none
  | _, _ => none
def dDiv : D → D → Option D
  | .int i, .int j => if 0 < j ∧ j < 1073741824 then some (.int (i / j)) else none
  | _, _ => none
def dMod : D → D → Option D
  | .int i, .int j => if 0 < j then some (.int (i % j)) else none
  | _, _ => none
def dPow : D → D → Option D
  | .int i, .int j => if 0 ≤ j ∧ j ≤ 1000000 ∧ i.natAbs < 1000000000000 then some (.int (i ^ j.toNat)) else none
  | _, _ => none
def dBin : Operator → D → D → Option D
  | .Add => dAdd
  | .Sub => dSub
  | .Mult => dMul
  | .FloorDiv => dDiv
  | .Mod => dMod
  | .Pow => dPow
  | _ => fun _ _ => none
def dNeg : D → Option D
  | .int i => some (.int (-i))
  | _ => none

def isN : D → Bool
  | .none => true
  | _ => false
def dEq (d e : D) : Option D := if min d.depth e.depth ≤ 400 then some (.bool (PyData.eqv d e)) else none
def dNe (d e : D) : Option D := if min d.depth e.depth ≤ 400 then some (.bool (!PyData.eqv d e)) else none
def dLt : D → D → Option D
  | .int i, .int j => some (.bool (decide (i < j)))
  | .str a, .str b => some (.bool (decide (a.cps.toList < b.cps.toList)))
  | _, _ => none
def dLe : D → D → Option D
  | .int i, .int j => some (.bool (decide (i ≤ j)))
  | _, _ => none
def dGt : D → D → Option D
  | .int i, .int j => some (.bool (decide (j < i)))
  | _, _ => none
def dGe : D → D → Option D
  | .int i, .int j => some (.bool (decide (j ≤ i)))
  | .str a, .str b => some (.bool (!decide (a.cps.toList < b.cps.toList)))
  | _, _ => none
/-- x in c -/
def inB : D → D → Option Bool
  | d, .list xs => if min (PyData.depthAll xs) d.depth ≤ 400 then some (xs.any fun y => PyData.eqv y d) else none
  | d, .tuple xs => if min (PyData.depthAll xs) d.depth ≤ 400 then some (xs.any fun y => PyData.eqv y d) else none
  | .str x, .str z => match x.cps.toList with
    | [c] => some (decide (c ∈ z.cps.toList))
    | _ => none
  | _, _ => none
def dIn (d c : D) : Option D := (inB d c).map .bool
def dNotIn (d c : D) : Option D := (inB d c).map fun b => .bool (!b)
def dIs : D → D → Option D
  | d, .none => some (.bool (isN d))
  | .bool a, .bool b => some (.bool (decide (a = b)))
  | _, _ => none
def dIsNot : D → D → Option D
  | d, .none => some (.bool (!isN d))
  | _, _ => none
def dCmp : CmpOp → D → D → Option D
  | .Eq => dEq
  | .NotEq => dNe
  | .Lt => dLt
  | .LtE => dLe
  | .Gt => dGt
  | .GtE => dGe
  | .In => dIn
  | .NotIn => dNotIn
  | .Is => dIs
  | .IsNot => dIsNot

def dTru : D → Option Bool
  | .none => some false
  | .bool b => some b
  | .int i => some (i != 0)
  | .str x => if x.length ≤ lim then some (x.length != 0) else none
  | .list xs => some (!xs.isEmpty)
  | .tuple xs => some (!xs.isEmpty)
  | .dict _ => none
def dIx : D → D → Option D
  | .list xs, .int i => atI xs i
  | .tuple xs, .int i => atI xs i
  | .str z, .int i => if z.length ≤ lim then (atI z.cps.toList i).map fun c => .str ⟨#[c]⟩ else none
  | _, _ => none
def cutD (xs : List D) (lo hi : Option Int) : List D := (xs.drop (HT.sIx xs.length 0 lo)).take (HT.sIx xs.length xs.length hi - HT.sIx xs.length 0 lo)
def dSl : D → Option Int → Option Int → Option D
  | .list xs, lo, hi => some (.list (cutD xs lo hi))
  | .tuple xs, lo, hi => some (.tuple (cutD xs lo hi))
  | .str z, lo, hi => if z.length ≤ lim then some (.str (cutS z lo hi)) else none
  | _, _, _ => none

def r2 (K : PySem.W.Frag) (f : D → D → Option D) : R2 := fun x y H Q => ∃ B d e z, Same B H ∧ Dp K B x d ∧ Dp K B y e ∧ f d e = some z ∧ ∀ v B' H', Ext B H B' H' → Dp K B' v z → Q v H'

section
variable {K : PySem.W.Frag} {B H : Hp} {Q : VK}
theorem fin_tup {vs : List V} {ds : List D} (s : Same B H) (r : DpAll K B vs ds) (q : ∀ v B' H', Ext B H B' H' → Dp K B' v (.tuple ds) → Q v H') : ∀ p, H p = none → Q (.ref p) (upd H p (.tup vs)) := fun p np =>
  q _ _ _ (Ext.new s np) (Dp.tup_new (r.same (upd_free (s.free np))))
theorem fin_lst {vs : List V} {ds : List D} (s : Same B H) (r : DpAll K B vs ds) (q : ∀ v B' H', Ext B H B' H' → Dp K B' v (.list ds) → Q v H') : ∀ p, H p = none → Q (.ref p) (upd H p (.lst vs)) := fun p np =>
  q _ _ _ (Ext.new s np) (Dp.lst_new (r.same (upd_free (s.free np))))
theorem fin_same {v : V} {d : D} (s : Same B H) (r : Dp K B v d) (q : ∀ v B' H', Ext B H B' H' → Dp K B' v d → Q v H') : Q v H := q _ _ _ (Ext.refl s) r
end

/-! ### list + list, wherever they stand -/
theorem list_addW (l : Addr) (items : Array Value) (n : Nat) (dd : Option Addr) (sl : Array (Option Value)) (b : Addr) (items2 : Array Value) (n2 : Nat) (dd2 : Option Addr) (sl2 : Array (Option Value)) (hc0 : items.size + items2.size ≤ sizeLine) :
    Meets (Builtin.«list.__add__» ⟨[.ref l, .ref b], []⟩) (fun _ R s => s.heap.get? l = some { cls := .type "list", dict := dd, data := .seq items n, slots := sl } ∧ s.heap.get? b = some { cls := .type "list", dict := dd2, data := .seq items2 n2, slots := sl2 } ∧
      R (.ok (.ret (Value.ref s.heap.objs.size))) { s with heap := s.heap.push { cls := .type "list", data := .seq (items ++ items2) } }) :=
  .of_wp fun prog w A R s h => by
    obtain ⟨hp, g, d, tk, os⟩ := s; obtain ⟨hl, hb, h⟩ := h; have f1 := AutoSeq1.idx_int; have f2 := AutoSeq1.sub_tuple_tuple; have f3 := AutoSeq1.sub_list_list; have f4 := AutoSeq1.sub_tuple_list; have f5 := AutoSeq1.sub_list_tuple
    wp_walk using AutoSeq1.wpAny_loadPart' hl, AutoSeq1.wpAny_loadPart' hb
    exact ⟨_, rfl, h⟩

section
variable {X : Cx}
def rCatL (K : PySem.W.Frag) : R2 := fun x y H Q => ∃ l b xs zs, x = .ref l ∧ y = .ref b ∧ SqL K H l xs ∧ SqL K H b zs ∧ xs.length + zs.length ≤ sizeLine ∧ ∀ p, H p = none → Q (.ref p) (upd H p (.lst (xs ++ zs)))
theorem op_catL : OpR X (binaryOp .Add) (rCatL X.K) := by
  intro pins s σ H x y v u Q I rx ry h
  obtain ⟨l, b, xs, zs, rfl, rfl, hH, hB, hz, q⟩ := h
  cases rx
  cases ry
  obtain ⟨its, r, ⟨⟨c1, d1, dt1, sl1⟩, n, e, hc, _, hd⟩, z⟩ := I.list hH
  obtain ⟨its2, r2, ⟨⟨c2, d2, dt2, sl2⟩, n2, e2, hc2, _, hd2⟩, z2⟩ := I.list hB
  simp only at hc hd hc2 hd2
  subst hc hd hc2 hd2
  have hl := r.length
  have hl2 := r2.length
  refine concat_meets ⟨_, e, rfl⟩ ⟨_, e2, rfl⟩ noFill_list_add seq_list_add F.slot_list_add F.entry_list_add (F.args_list_add_2 _ _) (list_addW l its.toArray n d1 sl1 b its2.toArray n2 d2 sl2 (by rw [List.size_toArray, List.size_toArray]; omega)) ⟨e, e2, ?_⟩
  have ea : its.toArray ++ its2.toArray = (its ++ its2).toArray := by simp
  rw [ea]
  exact ⟨.ref _, _, I.lnew (t' := s.toks) (r.append r2) (by rw [List.length_append]; omega), rfl, q _ I.fresh⟩

theorem or_add : OpR X (binaryOp .Add) (r2 X.K dAdd) := by
  intro pins s σ H x y v u Q I rx ry h
  obtain ⟨B, d, e, z, sb, hd, he, hz, q⟩ := h
  have ll := lim_line
  cases hd with
  | int i =>
    cases he with
    | int j => cases hz; exact op_add pins s σ H _ _ v u Q I rx ry ⟨i, j, rfl, rfl, fin_same sb (.int _) q⟩
    | _ => cases hz
  | str a =>
    cases he with
    | str b =>
      simp only [dAdd] at hz
      split at hz
      · cases hz; exact op_add_str pins s σ H _ _ v u Q I rx ry ⟨a, b, rfl, rfl, by omega, fin_same sb (.str _) q⟩
      · cases hz
    | _ => cases hz
  | tup h1 r1 =>
    cases he with
    | tup h2 r2 =>
      simp only [dAdd] at hz
      split at hz
      · cases hz
        rename_i hl
        have l1 := r1.length
        have l2 := r2.length
        refine op_catA pins s σ H _ _ v u Q I rx ry ⟨_, _, _, _, rfl, rfl, sb.seqT h1, sb.seqT h2, by omega, fun e => ?_, fun _ e => ?_, fun _ _ => fin_tup sb (r1.append r2) q⟩
        · subst e
          cases r1
          exact fin_same sb (.tup h2 r2) q
        · subst e
          cases r2
          exact fin_same sb (.tup h1 (by rw [List.append_nil]; exact r1)) q
      · cases hz
    | _ => cases hz
  | lst h1 r1 =>
    cases he with
    | lst h2 r2 =>
      simp only [dAdd] at hz
      split at hz
      · cases hz
        rename_i hl
        have l1 := r1.length
        have l2 := r2.length
        exact op_catL pins s σ H _ _ v u Q I rx ry ⟨_, _, _, _, rfl, rfl, sb.seq h1, sb.seq h2, by omega, fin_lst sb (r1.append r2) q⟩
      · cases hz
    | _ => cases hz
  | non => cases he <;> cases hz
  | bl b => cases he <;> cases hz
theorem or_sub : OpR X (binaryOp .Sub) (r2 X.K dSub) := by
  intro pins s σ H x y v u Q I rx ry h
  obtain ⟨B, d, e, z, sb, hd, he, hz, q⟩ := h
  cases hd with
  | int i =>
    cases he with
    | int j => cases hz; exact op_sub pins s σ H _ _ v u Q I rx ry ⟨i, j, rfl, rfl, fin_same sb (.int _) q⟩
    | _ => cases hz
  | _ => cases he <;> cases hz
theorem cps_flat (a : Array Nat) : ∀ (n : Nat) (acc : Array Nat), (List.replicate n a).foldl (· ++ ·) acc = acc ++ (List.replicate n a.toList).flatten.toArray
  | 0, acc => by simp
  | n + 1, acc => by
    rw [List.replicate_succ, List.foldl_cons, cps_flat a n, List.replicate_succ, List.flatten_cons]
    apply Array.toList_inj.mp
    simp
theorem flat_len {α : Type} (xs : List α) : ∀ k : Nat, (List.replicate k xs).flatten.length = xs.length * k
  | 0 => by simp
  | k + 1 => by rw [List.replicate_succ, List.flatten_cons, List.length_append, flat_len xs k, Nat.mul_succ]; omega
theorem or_mul : OpR X (binaryOp .Mult) (r2 X.K dMul) := by
  intro pins s σ H x y v u Q I rx ry h
  obtain ⟨B, d, e, z, sb, hd, he, hz, q⟩ := h
  cases hd with
  | int i =>
    cases he with
    | int j =>
      simp only [dMul] at hz
      split at hz
      · rename_i hj
        cases hz
        exact op_mul pins s σ H _ _ v u Q I rx ry ⟨i, j, rfl, rfl, .inr (by have := smI_iff.mp hj; exact ⟨by omega, by omega⟩), fin_same sb (.int _) q⟩
      · cases hz
    | _ => cases hz
  | str a =>
    cases he with
    | int n =>
      simp only [dMul] at hz
      split at hz
      · rename_i hn
        cases hz
        obtain ⟨t, rfl⟩ := rx
        obtain ⟨t', rfl⟩ := ry
        obtain ⟨h0, h1, h2⟩ := hn
        have sz : (a.length : Int) ≤ 1000 := by omega
        have q' := q (.str (strRep a n.toNat)) B H (Ext.refl sb) (.str _)
        refine PySem.P.mul_str (by
          have e1 : ¬ n < -(2 ^ 63 : Int) := by omega
          have e2 : ¬ n ≥ 2 ^ 63 := by omega
          rw [decide_eq_false e1, decide_eq_false e2]; rfl) (fun g1 _ => ?_) (fun g1 _ => ?_) ?_
        · have : (1000000 : Int) ≤ (2 ^ 63 - 1) / n := by
            refine (Int.le_ediv_iff_mul_le (by omega)).mpr ?_
            have : (1000000 : Int) * n ≤ 1000000 * 1000 := by omega
            omega
          omega
        · have hm : a.length * n.toNat ≤ 1000 * 1000 := Nat.mul_le_mul h2 (by omega)
          unfold Builtin.Str.tooLong
          exact decide_eq_false (by have := sizeLine_eq; omega)
        · by_cases c1 : n < 1
          · rw [if_pos c1]
            have en : n.toNat = 0 := by omega
            have e0 : strRep a n.toNat = Str.empty := by rw [en]; rfl
            rw [e0] at q'
            exact ⟨by decide, ⟨.str Str.empty, H, I.tok _, ⟨_, rfl⟩, q'⟩⟩
          · rw [if_neg c1]
            by_cases c2 : (n == 1 || a.length == 0) = true
            · rw [if_pos c2]
              have e0 : strRep a n.toNat = a := by
                rcases Bool.or_eq_true_iff.mp c2 with c | c
                · have en : n = 1 := beq_iff_eq.mp c
                  subst en
                  show (⟨((List.replicate 1 a.cps.toList).flatten).toArray⟩ : Str) = a
                  cases a
                  simp
                · have ea : a.length = 0 := beq_iff_eq.mp c
                  have ec : a.cps = #[] := Array.size_eq_zero_iff.mp ea
                  unfold strRep
                  cases a
                  simp only at ec
                  subst ec
                  simp
              rw [e0] at q'
              exact ⟨.str a, H, I, ⟨_, rfl⟩, q'⟩
            · rw [if_neg c2]
              have e0 : (⟨(List.replicate n.toNat a.cps).foldl (· ++ ·) #[]⟩ : Str) = strRep a n.toNat := by
                rw [cps_flat]
                simp [strRep]
              rw [e0]
              refine ⟨?_, ⟨.str _, H, I.tok _, ⟨_, rfl⟩, q'⟩⟩
              show (strRep a n.toNat).length ≤ _
              have hm : a.length * n.toNat ≤ 1000 * 1000 := Nat.mul_le_mul h2 (by omega)
              have : (strRep a n.toNat).length = a.length * n.toNat := by
                show ((List.replicate n.toNat a.cps.toList).flatten.toArray).size = a.cps.size * n.toNat
                rw [List.size_toArray, flat_len, Array.length_toList]
              have := sizeLine_eq
              omega
      · cases hz
    | _ => cases hz
  | _ => cases he <;> cases hz
theorem or_div : OpR X (binaryOp .FloorDiv) (r2 X.K dDiv) := by
  intro pins s σ H x y v u Q I rx ry h
  obtain ⟨B, d, e, z, sb, hd, he, hz, q⟩ := h
  cases hd with
  | int i =>
    cases he with
    | int j =>
      simp only [dDiv] at hz
      split at hz
      · rename_i hj
        cases hz
        exact op_fdiv pins s σ H _ _ v u Q I rx ry ⟨i, j, rfl, rfl, hj, fin_same sb (.int _) q⟩
      · cases hz
    | _ => cases hz
  | _ => cases he <;> cases hz
theorem or_mod : OpR X (binaryOp .Mod) (r2 X.K dMod) := by
  intro pins s σ H x y v u Q I rx ry h
  obtain ⟨B, d, e, z, sb, hd, he, hz, q⟩ := h
  cases hd with
  | int i =>
    cases he with
    | int j =>
      simp only [dMod] at hz
      split at hz
      · rename_i hj
        cases hz
        exact op_mod pins s σ H _ _ v u Q I rx ry ⟨i, j, rfl, rfl, hj, fin_same sb (.int _) q⟩
      · cases hz
    | _ => cases hz
  | _ => cases he <;> cases hz
theorem or_pow : OpR X (binaryOp .Pow) (r2 X.K dPow) := by
  intro pins s σ H x y v u Q I rx ry h
  obtain ⟨B, d, e, z, sb, hd, he, hz, q⟩ := h
  cases hd with
  | int i =>
    cases he with
    | int j =>
      simp only [dPow] at hz
      split at hz
      · rename_i hj
        cases hz
        exact op_pow pins s σ H _ _ v u Q I rx ry ⟨i, j, rfl, rfl, ⟨hj.1, hj.2.1, by have := hj.2.2; omega⟩, fin_same sb (.int _) q⟩
      · cases hz
    | _ => cases hz
  | _ => cases he <;> cases hz
theorem or_bin (op : Operator) : OpR X (binaryOp op) (r2 X.K (dBin op)) := by
  cases op with
  | Add => exact or_add
  | Sub => exact or_sub
  | Mult => exact or_mul
  | FloorDiv => exact or_div
  | Mod => exact or_mod
  | Pow => exact or_pow
  | _ =>
    intro pins s σ H x y v u Q I rx ry h
    obtain ⟨B, d, e, z, sb, hd, he, hz, q⟩ := h
    cases hz
end
end CH

/-! CH 3: comparisons, truth, subscripts, slices of data. -/
namespace CH
open PySem PySem.Spec PyProof.Rows L2
section
variable {X : Cx}
theorem or_eq (hu : X.A.units + 500 < cLine) : OpR X (compareOp .Eq) (r2 X.K dEq) := by
  intro pins s σ H x y v u Q I rx ry h
  obtain ⟨B, d, e, z, sb, hd, he, hz, q⟩ := h
  simp only [dEq] at hz
  split at hz
  · cases hz
    obtain ⟨as, r1⟩ := Dp.reads I d x v (hd.same sb) rx
    obtain ⟨bs, r2⟩ := Dp.reads I e y u (he.same sb) ry
    exact SeqAt.eq_plain r1 r2 hd.plain he.plain (by omega) ⟨.bl _, H, I, rfl, fin_same sb (.bl _) q⟩
  · cases hz
theorem or_ne (hu : X.A.units + 500 < cLine) : OpR X (compareOp .NotEq) (r2 X.K dNe) := by
  intro pins s σ H x y v u Q I rx ry h
  obtain ⟨B, d, e, z, sb, hd, he, hz, q⟩ := h
  simp only [dNe] at hz
  split at hz
  · cases hz
    obtain ⟨as, r1⟩ := Dp.reads I d x v (hd.same sb) rx
    obtain ⟨bs, r2⟩ := Dp.reads I e y u (he.same sb) ry
    exact SeqAt.ne_plain r1 r2 hd.plain he.plain (by omega) ⟨.bl _, H, I, rfl, fin_same sb (.bl _) q⟩
  · cases hz
theorem or_lt : OpR X (compareOp .Lt) (r2 X.K dLt) := by
  intro pins s σ H x y v u Q I rx ry h
  obtain ⟨B, d, e, z, sb, hd, he, hz, q⟩ := h
  cases hd with
  | int i =>
    cases he with
    | int j => cases hz; exact op_lt pins s σ H _ _ v u Q I rx ry ⟨i, j, rfl, rfl, fin_same sb (.bl _) q⟩
    | _ => cases hz
  | str i =>
    cases he with
    | str j => cases hz; exact op_lt_str pins s σ H _ _ v u Q I rx ry ⟨i, j, rfl, rfl, fin_same sb (.bl _) q⟩
    | _ => cases hz
  | _ => cases he <;> cases hz
theorem or_le : OpR X (compareOp .LtE) (r2 X.K dLe) := by
  intro pins s σ H x y v u Q I rx ry h
  obtain ⟨B, d, e, z, sb, hd, he, hz, q⟩ := h
  cases hd with
  | int i =>
    cases he with
    | int j => cases hz; exact op_le pins s σ H _ _ v u Q I rx ry ⟨i, j, rfl, rfl, fin_same sb (.bl _) q⟩
    | _ => cases hz
  | _ => cases he <;> cases hz
theorem or_gt : OpR X (compareOp .Gt) (r2 X.K dGt) := by
  intro pins s σ H x y v u Q I rx ry h
  obtain ⟨B, d, e, z, sb, hd, he, hz, q⟩ := h
  cases hd with
  | int i =>
    cases he with
    | int j => cases hz; exact op_gt pins s σ H _ _ v u Q I rx ry ⟨i, j, rfl, rfl, fin_same sb (.bl _) q⟩
    | _ => cases hz
  | _ => cases he <;> cases hz
theorem or_ge : OpR X (compareOp .GtE) (r2 X.K dGe) := by
  intro pins s σ H x y v u Q I rx ry h
  obtain ⟨B, d, e, z, sb, hd, he, hz, q⟩ := h
  cases hd with
  | int i =>
    cases he with
    | int j => cases hz; exact op_ge pins s σ H _ _ v u Q I rx ry ⟨i, j, rfl, rfl, fin_same sb (.bl _) q⟩
    | _ => cases hz
  | str i =>
    cases he with
    | str j => cases hz; exact op_ge_str pins s σ H _ _ v u Q I rx ry ⟨i, j, rfl, rfl, fin_same sb (.bl _) q⟩
    | _ => cases hz
  | _ => cases he <;> cases hz
theorem sign_of {x : Str} {c : Nat} (h : x.cps.toList = [c]) : x = ⟨#[c]⟩ := by
  cases x
  simp only [Str.mk.injEq]
  apply Array.toList_inj.mp
  exact h
theorem or_in (hu : X.A.units + 500 < cLine) : OpR X (compareOp .In) (r2 X.K dIn) := by
  intro pins s σ H x y v u Q I rx ry h
  obtain ⟨B, d, e, z, sb, hd, he, hz, q⟩ := h
  unfold dIn at hz
  cases hb : inB d e with
  | none => rw [hb] at hz; cases hz
  | some b =>
    rw [hb] at hz
    cases hz
    have q1 : Q (.bl b) H := fin_same sb (.bl b) q
    cases he with
    | lst h1 r1 =>
      simp only [inB] at hb
      split at hb
      · cases hb
        obtain ⟨as, r1'⟩ := Dp.reads I d x v (hd.same sb) rx
        obtain ⟨bs, r2'⟩ := Dp.reads I (.list _) _ u ((Dp.lst h1 r1).same sb) ry
        exact SeqAt.in_list_data r2' r1' r1.plain hd.plain (by omega) ⟨.bl _, H, I, rfl, q1⟩
      · cases hb
    | tup h1 r1 =>
      simp only [inB] at hb
      split at hb
      · cases hb
        obtain ⟨as, r1'⟩ := Dp.reads I d x v (hd.same sb) rx
        obtain ⟨bs, r2'⟩ := Dp.reads I (.tuple _) _ u ((Dp.tup h1 r1).same sb) ry
        exact SeqAt.in_tuple_data r2' r1' r1.plain hd.plain (by omega) ⟨.bl _, H, I, rfl, q1⟩
      · cases hb
    | str z =>
      cases hd with
      | str w =>
        simp only [inB] at hb
        split at hb
        · rename_i c hc
          cases hb
          exact op_in_sign pins s σ H _ _ v u Q I rx ry ⟨c, z, by rw [sign_of hc], rfl, q1⟩
        · cases hb
      | _ => cases hb
    | _ => cases hd <;> cases hb
theorem or_notIn (hu : X.A.units + 500 < cLine) : OpR X (compareOp .NotIn) (r2 X.K dNotIn) := by
  intro pins s σ H x y v u Q I rx ry h
  obtain ⟨B, d, e, z, sb, hd, he, hz, q⟩ := h
  unfold dNotIn at hz
  cases hb : inB d e with
  | none => rw [hb] at hz; cases hz
  | some b =>
    rw [hb] at hz
    cases hz
    have q1 : Q (.bl (!b)) H := fin_same sb (.bl _) q
    cases he with
    | lst h1 r1 =>
      simp only [inB] at hb
      split at hb
      · cases hb
        obtain ⟨as, r1'⟩ := Dp.reads I d x v (hd.same sb) rx
        obtain ⟨bs, r2'⟩ := Dp.reads I (.list _) _ u ((Dp.lst h1 r1).same sb) ry
        exact SeqAt.notIn_list_data r2' r1' r1.plain hd.plain (by omega) ⟨.bl _, H, I, rfl, q1⟩
      · cases hb
    | tup h1 r1 =>
      simp only [inB] at hb
      split at hb
      · cases hb
        obtain ⟨as, r1'⟩ := Dp.reads I d x v (hd.same sb) rx
        obtain ⟨bs, r2'⟩ := Dp.reads I (.tuple _) _ u ((Dp.tup h1 r1).same sb) ry
        exact SeqAt.notIn_tuple_data r2' r1' r1.plain hd.plain (by omega) ⟨.bl _, H, I, rfl, q1⟩
      · cases hb
    | str z =>
      cases hd with
      | str w =>
        simp only [inB] at hb
        split at hb
        · rename_i c hc
          cases hb
          exact op_notIn_sign pins s σ H _ _ v u Q I rx ry ⟨c, z, by rw [sign_of hc], rfl, q1⟩
        · cases hb
      | _ => cases hb
    | _ => cases hd <;> cases hb
theorem non_is {K : PySem.W.Frag} {H : Hp} {x : V} {d : D} (h : Dp K H x d) : decide (x = V.non) = isN d := by
  cases h <;> first | rfl | exact decide_eq_false (fun z => nomatch z)
theorem or_is : OpR X (compareOp .Is) (r2 X.K dIs) := by
  intro pins s σ H x y v u Q I rx ry h
  obtain ⟨B, d, e, z, sb, hd, he, hz, q⟩ := h
  cases he with
  | non =>
    cases hz
    exact op_isN pins s σ H _ _ v u Q I rx ry ⟨rfl, by rw [non_is hd]; exact fin_same sb (.bl _) q⟩
  | bl b =>
    cases hd with
    | bl a =>
      cases hz
      exact op_is_bl pins s σ H _ _ v u Q I rx ry ⟨a, b, rfl, rfl, fin_same sb (.bl _) q⟩
    | _ => cases hz
  | _ => cases hd <;> cases hz
theorem or_isNot : OpR X (compareOp .IsNot) (r2 X.K dIsNot) := by
  intro pins s σ H x y v u Q I rx ry h
  obtain ⟨B, d, e, z, sb, hd, he, hz, q⟩ := h
  cases he with
  | non =>
    cases hz
    exact op_notN pins s σ H _ _ v u Q I rx ry ⟨rfl, by rw [non_is hd]; exact fin_same sb (.bl _) q⟩
  | _ => cases hz
theorem or_cmp (hu : X.A.units + 500 < cLine) (op : CmpOp) : OpR X (compareOp op) (r2 X.K (dCmp op)) := by
  cases op with
  | Eq => exact or_eq hu
  | NotEq => exact or_ne hu
  | Lt => exact or_lt
  | LtE => exact or_le
  | Gt => exact or_gt
  | GtE => exact or_ge
  | In => exact or_in hu
  | NotIn => exact or_notIn hu
  | Is => exact or_is
  | IsNot => exact or_isNot
theorem cmp_bool {op : CmpOp} {d e z : D} (h : dCmp op d e = some z) : ∃ b, z = .bool b := by
  cases op with
  | Eq => simp only [dCmp, dEq] at h; split at h <;> cases h; exact ⟨_, rfl⟩
  | NotEq => simp only [dCmp, dNe] at h; split at h <;> cases h; exact ⟨_, rfl⟩
  | Lt => simp only [dCmp] at h; unfold dLt at h; split at h <;> cases h <;> exact ⟨_, rfl⟩
  | LtE => simp only [dCmp] at h; unfold dLe at h; split at h <;> cases h <;> exact ⟨_, rfl⟩
  | Gt => simp only [dCmp] at h; unfold dGt at h; split at h <;> cases h <;> exact ⟨_, rfl⟩
  | GtE => simp only [dCmp] at h; unfold dGe at h; split at h <;> cases h <;> exact ⟨_, rfl⟩
  | In => simp only [dCmp, dIn] at h; cases hb : inB d e <;> rw [hb] at h <;> cases h; exact ⟨_, rfl⟩
  | NotIn => simp only [dCmp, dNotIn] at h; cases hb : inB d e <;> rw [hb] at h <;> cases h; exact ⟨_, rfl⟩
  | Is => simp only [dCmp] at h; unfold dIs at h; split at h <;> cases h <;> exact ⟨_, rfl⟩
  | IsNot => simp only [dCmp] at h; unfold dIsNot at h; split at h <;> cases h; exact ⟨_, rfl⟩

theorem tru_of {K : PySem.W.Frag} {H : Hp} {x : V} {d : D} {k : Bool} (h : Dp K H x d) (e : dTru d = some k) : TruV K x H k := by
  have ll := lim_line
  cases h with
  | non => cases e; rfl
  | bl b => cases e; rfl
  | int i => cases e; rfl
  | str x =>
    simp only [dTru] at e
    split at e
    · cases e
      refine ⟨by omega, ?_⟩
      by_cases hx : x.length = 0
      · rw [hx]; rfl
      · rw [bne_iff_ne.mpr hx, bne_iff_ne.mpr (fun z => hx (by omega))]
    · cases e
  | lst h1 r1 =>
    cases e
    refine .inl ⟨_, h1, ?_⟩
    cases r1 <;> rfl
  | tup h1 r1 =>
    cases e
    refine .inr (.inl ⟨_, h1, ?_⟩)
    cases r1 <;> rfl

theorem atI_some {α : Type} {xs : List α} {i : Int} {x : α} (h : atI xs i = some x) : ∃ j : Nat, ixN xs.length i = some j ∧ xs[j]? = some x := by
  unfold atI at h
  cases e : ixN xs.length i with
  | none => rw [e] at h; cases h
  | some j => rw [e] at h; exact ⟨j, rfl, h⟩
theorem atI_dp {K : PySem.W.Frag} {B : Hp} {vs : List V} {ds : List D} {i : Int} {d : D} (r : DpAll K B vs ds) (h : atI ds i = some d) : ∃ v, atI vs i = some v ∧ Dp K B v d := by
  obtain ⟨j, e, hj⟩ := atI_some h
  obtain ⟨v, hv, hd⟩ := r.get hj
  refine ⟨v, ?_, hd⟩
  unfold atI
  rw [r.length, e]
  exact hv
theorem ix_dat : IxR X (r2 X.K dIx) := by
  intro value slice pins s σ H x y v u Q I rx ry h hs
  obtain ⟨B, d, e, z, sb, hd, he, hz, q⟩ := h
  have ll := lim_line
  cases hd with
  | lst h1 r1 =>
    cases he with
    | int i =>
      obtain ⟨w, hw, hd'⟩ := atI_dp r1 hz
      exact ix_list value slice pins s σ H _ _ v u Q I rx ry ⟨_, _, i, w, rfl, rfl, sb.seq h1, hw, fin_same sb hd' q⟩ hs
    | _ => cases hz
  | tup h1 r1 =>
    cases he with
    | int i =>
      obtain ⟨w, hw, hd'⟩ := atI_dp r1 hz
      exact ix_tup value slice pins s σ H _ _ v u Q I rx ry ⟨_, _, i, w, rfl, rfl, sb.seqT h1, hw, fin_same sb hd' q⟩ hs
    | _ => cases hz
  | str x =>
    cases he with
    | int i =>
      simp only [dIx] at hz
      split at hz
      · cases e : atI x.cps.toList i with
        | none => rw [e] at hz; cases hz
        | some c =>
          rw [e] at hz
          cases hz
          exact ix_str value slice pins s σ H _ _ v u Q I rx ry ⟨x, i, c, rfl, rfl, by omega, e, fin_same sb (.str _) q⟩ hs
      · cases hz
    | _ => cases hz
  | _ => cases he <;> cases hz
theorem cut_dp {K : PySem.W.Frag} {B : Hp} {vs : List V} {ds : List D} (r : DpAll K B vs ds) (lo hi : Option Int) : DpAll K B (cutV vs lo hi) (cutD ds lo hi) := by
  unfold cutV cutD
  rw [r.length]
  exact (r.drop _).take _
theorem cut_whole {vs : List V} {lo hi : Option Int} (h : HT.sIx vs.length 0 lo = 0 ∧ HT.sIx vs.length vs.length hi = vs.length) : cutV vs lo hi = vs := by
  unfold cutV
  rw [h.1, h.2, List.drop_zero, Nat.sub_zero, List.take_length]
/-- a slice -/
def rSlD (K : PySem.W.Frag) : V → Option Int → Option Int → Hp → VK → Prop := fun x lo hi H Q => ∃ B d z, Same B H ∧ Dp K B x d ∧ dSl d lo hi = some z ∧ ∀ v B' H', Ext B H B' H' → Dp K B' v z → Q v H'
theorem sl_dat : SlR X (rSlD X.K) := by
  intro pins s σ H x v vl vu lo hi sl Q I rx hs pl pu h
  obtain ⟨B, d, z, sb, hd, hz, q⟩ := h
  have ll := lim_line
  cases hd with
  | lst h1 r1 =>
    cases hz
    exact sl_list pins s σ H _ v vl vu lo hi sl Q I rx hs pl pu ⟨_, _, rfl, sb.seq h1, fin_lst sb (cut_dp r1 lo hi) q⟩
  | tup h1 r1 =>
    cases hz
    refine sl_tupA pins s σ H _ v vl vu lo hi sl Q I rx hs pl pu ⟨_, _, rfl, sb.seqT h1, fun w => ?_, fun _ => fin_tup sb (cut_dp r1 lo hi) q⟩
    have r2 := cut_dp r1 lo hi
    rw [cut_whole w] at r2
    exact fin_same sb (.tup h1 r2) q
  | str y =>
    simp only [dSl] at hz
    split at hz
    · cases hz
      exact sl_str pins s σ H _ v vl vu lo hi sl Q I rx hs pl pu ⟨y, rfl, by omega, fin_same sb (.str _) q⟩
    · cases hz
  | _ => cases hz
end
end CH

/-! CH 4: the small language: expressions, what they come to, how they are written. -/
namespace CH
open PySem PySem.Spec PyProof.Rows L2

/-- built-ins of one argument -/
inductive Bi where
  | len | list | tuple | sorted | str
/-- types that isinstance is asked of -/
inductive Ty where
  | str | tuple | int | bool | list

inductive Tg where
  | one (i : Nat) (x : Str) (p : Pos)
  | two (i : Nat) (x : Str) (p : Pos) (j : Nat) (y : Str) (q : Pos) (k : Nat) (r : Pos)

mutual
inductive E where
  | var (i : Nat) (x : Str) (p : Pos)
  | glob (g : Nat) (x : Str) (p : Pos)
  | cst (c : Const) (k : Nat) (p : Pos)
  | tup (es : Es) (k : Nat) (p : Pos)
  | lst (es : Es) (p : Pos)
  | bin (op : Operator) (a b : E) (p : Pos)
  | neg (a : E) (p : Pos)
  | not (a : E) (p : Pos)
  | bop (o : BoolOp) (es : Es) (p : Pos)
  | cmp (op : CmpOp) (a b : E) (p : Pos)
  | chn (o1 o2 : CmpOp) (a b c : E) (p : Pos)
  | ife (t a b : E) (p : Pos)
  | ix (a i : E) (p : Pos)
  | sl (a : E) (lo hi : Oe) (p q : Pos)
  | rev (a : E) (p q r s : Pos)
  | call (f : Nat) (x : Str) (es : Es) (p q : Pos)
  | bi (b : Bi) (a : E) (p q : Pos)
  | isi (t : Ty) (a : E) (p q r : Pos)
  | srev (a : E) (p q r : Pos)
  | sset (a : E) (p q r s : Pos)
  | join (s a : E) (p q : Pos)
  | leno (i : Nat) (x : Str) (p q r : Pos)
  | comp (elt : E) (tg : Tg) (it : It) (ifs : Es) (sc : Scope) (own : List (Str × Nat)) (p : Pos)
  | exis (i : Nat) (x : Str) (c : Nat) (y : Str) (p q r s : Pos)
  | exat (i : Nat) (x : Str) (f : Str) (p q : Pos)
inductive Es where
  | nil
  | cons (a : E) (r : Es)
inductive Oe where
  | no
  | so (a : E)
inductive It where
  | seq (a : E)
  | rng (es : Es) (p q : Pos)
  | enum (a : E) (p q : Pos)
  | zip (a b : E) (p q : Pos)
  | revd (a : E) (p q : Pos)
end

/-! ### how they are written -/
def Bi.nm : Bi → Str
  | .len => "len"
  | .list => "list"
  | .tuple => "tuple"
  | .sorted => "sorted"
  | .str => "str"
def Ty.nm : Ty → Str
  | .str => "str"
  | .tuple => "tuple"
  | .int => "int"
  | .bool => "bool"
  | .list => "list"
def Tg.py : Tg → Expr
  | .one _ x p => .Name x p
  | .two _ x p _ y q k r => .Tuple [.Name x p, .Name y q] k r
mutual
def E.py : E → Expr
  | .var _ x p => .Name x p
  | .glob _ x p => .Name x p
  | .cst c k p => .Constant c k p
  | .tup es k p => .Tuple es.py k p
  | .lst es p => .List es.py p
  | .bin op a b p => .BinOp a.py op b.py p
  | .neg a p => .UnaryOp .USub a.py p
  | .not a p => .UnaryOp .Not a.py p
  | .bop o es p => .BoolOp o es.py p
  | .cmp op a b p => .Compare a.py [op] [b.py] p
  | .chn o1 o2 a b c p => .Compare a.py [o1, o2] [b.py, c.py] p
  | .ife t a b p => .IfExp t.py a.py b.py p
  | .ix a i p => .Subscript a.py i.py p
  | .sl a lo hi p q => .Subscript a.py (.Slice lo.py hi.py none q) p
  | .rev a p q r s => .Subscript a.py (.Slice none none (some (.UnaryOp .USub (.Constant (.int 1) 0 s) r)) q) p
  | .call _ x es p q => .Call (.Name x p) es.py [] q
  | .bi b a p q => .Call (.Name b.nm p) [a.py] [] q
  | .isi t a p q r => .Call (.Name "isinstance" p) [a.py, .Name t.nm q] [] r
  | .srev a p q r => .Call (.Name "sorted" p) [a.py] [⟨some "reverse", .Constant (.bool true) 0 q, r⟩] r
  | .sset a p q r s => .Call (.Name "sorted" p) [.Call (.Name "set" q) [a.py] [] r] [] s
  | .join s a p q => .Call (.Attribute s.py "join" p) [a.py] [] q
  | .leno _ x p q r => .Call (.Name "len" p) [.Name x q] [] r
  | .comp elt tg it ifs sc _ p => .ListComp elt.py [⟨tg.py, it.py, ifs.py, 0⟩] sc p
  | .exis _ x _ y p q r s => .Call (.Name "isinstance" p) [.Name x q, .Name y r] [] s
  | .exat _ x f p q => .Attribute (.Name x p) f q
def Es.py : Es → List Expr
  | .nil => []
  | .cons a r => a.py :: r.py
def Oe.py : Oe → Option Expr
  | .no => none
  | .so a => some a.py
def It.py : It → Expr
  | .seq a => a.py
  | .rng es p q => .Call (.Name "range" p) es.py [] q
  | .enum a p q => .Call (.Name "enumerate" p) [a.py] [] q
  | .zip a b p q => .Call (.Name "zip" p) [a.py, b.py] [] q
  | .revd a p q => .Call (.Name "reversed" p) [a.py] [] q
end

/-! ### what they come to -/
def R.of {α : Type} : Option α → R α
  | some a => .ok a
  | none => .stuck
/-- exceptions are not told of -/
def R.nx {α : Type} : R α → R α
  | .ok a => .ok a
  | _ => .stuck
def cstD : Const → Option D
  | .none => some .none
  | .bool b => some (.bool b)
  | .int i => some (.int i)
  | .str s => some (.str s)
  | _ => none

def insD (d : D) : List D → List D
  | [] => [d]
  | e :: r => if PySem.W.dataLt d e = true then d :: e :: r else e :: insD d r
/-- stable -/
def sortD (ds : List D) : List D := ds.foldl (fun acc d => insD d acc) []
def isStr : D → Bool
  | .str _ => true
  | _ => false
def isInt : D → Bool
  | .int _ => true
  | _ => false
def isInts : D → Bool
  | .tuple xs => xs.all isInt
  | _ => false
def sortable (ds : List D) : Bool := ds.all isStr || ds.all isInts || ds.all isInt
def dedup : List D → List D
  | [] => []
  | d :: r => if r.any (fun e => PyData.eqv e d) = true then dedup r else d :: dedup r
def strsOf : List D → Option (List Str)
  | [] => some []
  | .str s :: r => (strsOf r).map fun l => s :: l
  | _ :: _ => none
def biS : Bi → D → Option D
  | .len, .list xs => some (.int xs.length)
  | .len, .tuple xs => some (.int xs.length)
  | .len, .str s => if s.length ≤ lim then some (.int s.length) else none
  | .list, .list xs => some (.list xs)
  | .list, .tuple xs => some (.list xs)
  | .tuple, .list xs => some (.tuple xs)
  | .tuple, .tuple xs => some (.tuple xs)
  | .sorted, .list xs => if sortable xs = true then some (.list (sortD xs)) else none
  | .str, .str s => some (.str s)
  | _, _ => none
def tyS : Ty → D → Bool
  | .str, .str _ => true
  | .tuple, .tuple _ => true
  | .int, .int _ => true
  | .int, .bool _ => true
  | .bool, .bool _ => true
  | .list, .list _ => true
  | _, _ => false
def sRev : D → Option D
  | .list xs => if sortable xs = true then some (.list (sortD xs.reverse).reverse) else none
  | _ => none
def sSet : D → Option D
  | .list xs => if xs.all isStr = true ∧ xs.length ≤ 5000 then some (.list (sortD (dedup xs))) else none
  | _ => none
def dRev : D → Option D
  | .list xs => some (.list xs.reverse)
  | .str s => if s.length ≤ lim then some (.str ⟨s.cps.reverse⟩) else none
  | _ => none
def joinS : D → D → Option D
  | .str a, .list ys => match strsOf ys with
    | some zs => if (zs.map (·.length)).sum + a.length * zs.length ≤ lim then some (.str (Txt.join a zs)) else none
    | none => none
  | _, _ => none
def rngD (lo hi : Int) : List D := (List.range (hi - lo).toNat).map fun (i : Nat) => PyData.int (lo + (i : Int))
/-- small enough for a range -/
def rsm (j : Int) : Bool := smI 1000000 j
def rngS : List D → Option (List D)
  | [.int j] => if rsm j = true then some (rngD 0 j) else none
  | [.int i, .int j] => if (rsm i && rsm j) = true then some (rngD i j) else none
  | [.int i, .int j, .int c] => if (rsm i && rsm j && decide (c = -1)) = true then some ((List.range (i - j).toNat).map fun (k : Nat) => PyData.int (i - (k : Int))) else none
  | _ => none
def itemsS : D → Option (List D)
  | .list xs => some xs
  | .tuple xs => some xs
  | .str s => if s.length ≤ lim then some (s.cps.toList.map fun c => .str ⟨#[c]⟩) else none
  | _ => none
def enumFrom : Nat → List D → List D
  | _, [] => []
  | n, d :: r => .tuple [.int n, d] :: enumFrom (n + 1) r
def enumS : D → Option (List D)
  | .list xs => some (enumFrom 0 xs)
  | _ => none
def zipD : List D → List D → List D
  | a :: r, b :: s => .tuple [a, b] :: zipD r s
  | _, _ => []
def zipS : D → D → Option (List D)
  | .list xs, .list ys => some (zipD xs ys)
  | _, _ => none
def revS : D → Option (List D)
  | .list xs => some xs.reverse
  | .tuple xs => some xs.reverse
  | _ => none
def dInt : D → Option Int
  | .int i => some i
  | _ => none
def dBool : D → Option Bool
  | .bool b => some b
  | _ => none

/-- exception classes: name, the field's name, the numbers of the classes that it is under (itself too) -/
structure XInfo where
  name : Str
  field : Option Str
  up : List Nat
/-- functions: name, parameters, the last ones' defaults -/
structure FInfo where
  name : Str
  np : Nat
  dfl : List D
structure Info where
  globs : List (Str × D)
  fns : List FInfo
  exs : List XInfo
def FInfo.fill (f : FInfo) (n : Nat) : List D := f.dfl.drop (f.dfl.length - (f.np - n))

def setS (ρ : List Sl) (i : Nat) (d : D) : List Sl := ρ.set i (.dat d)
def Tg.set : Tg → D → List Sl → Option (List Sl)
  | .one i _ _, d, ρ => some (setS ρ i d)
  | .two i _ _ j _ _ _ _, .tuple [a, b], ρ => some (setS (setS ρ i a) j b)
  | .two .., _, _ => none
def wipeS (ρ : List Sl) : List Nat → List Sl
  | [] => ρ
  | v :: vs => (wipeS ρ vs).set v .no
def compL (bd : D → Option (List Sl)) (test : M Bool) (elt : M D) : List D → R (List D)
  | [] => .ok []
  | d :: ds => (R.of (bd d)).bind fun ρ => (test ρ).bind fun b =>
    if b = true then (elt ρ).bind fun y => (compL bd test elt ds).bind fun ys => .ok (y :: ys) else compL bd test elt ds

/-- a piece as a value, as a test -/
structure P where
  v : M D
  t : M Bool
def mkV (m : M D) : P := ⟨m, fun ρ => (m ρ).bind fun d => R.of (dTru d)⟩
/-- several pieces: in a row; joined by and, by or, as a value, as a test; all hold -/
structure Ps where
  l : M (List D)
  andV : M D
  orV : M D
  andT : M Bool
  orT : M Bool
  allT : M Bool

abbrev FT := Nat → List D → R D
mutual
@[simp] def ev (I : Info) (F : FT) : E → P
  | .var i _ _ => mkV fun ρ => match ρ[i]? with
    | some (.dat d) => .ok d
    | _ => .stuck
  | .glob g _ _ => mkV fun _ => R.of ((I.globs[g]?).map (·.2))
  | .cst c _ _ => mkV fun _ => R.of (cstD c)
  | .tup es _ _ => mkV fun ρ => ((evs I F es).l ρ).bind fun ds => .ok (.tuple ds)
  | .lst es _ => mkV fun ρ => ((evs I F es).l ρ).bind fun ds => .ok (.list ds)
  | .bin op a b _ => mkV fun ρ => ((ev I F a).v ρ).bind fun d => ((ev I F b).v ρ).bind fun e => R.of (dBin op d e)
  | .neg a _ => mkV fun ρ => ((ev I F a).v ρ).bind fun d => R.of (dNeg d)
  | .not a _ => ⟨fun ρ => ((ev I F a).v ρ).bind fun d => (R.of (dTru d)).bind fun b => .ok (.bool (!b)), fun ρ => ((ev I F a).t ρ).bind fun b => .ok (!b)⟩
  | .bop .And es _ => ⟨(evs I F es).andV, (evs I F es).andT⟩
  | .bop .Or es _ => ⟨(evs I F es).orV, (evs I F es).orT⟩
  | .cmp op a b _ => mkV fun ρ => ((ev I F a).v ρ).bind fun d => ((ev I F b).v ρ).bind fun e => R.of (dCmp op d e)
  | .chn o1 o2 a b c _ => mkV fun ρ => ((ev I F a).v ρ).bind fun d => ((ev I F b).v ρ).bind fun e => (R.of (dCmp o1 d e)).bind fun z => (R.of (dBool z)).bind fun k =>
      if k = true then ((ev I F c).v ρ).bind fun f => R.of (dCmp o2 e f) else .ok (.bool false)
  | .ife t a b _ => ⟨fun ρ => ((ev I F t).t ρ).bind fun k => if k = true then (ev I F a).v ρ else (ev I F b).v ρ, fun _ => .stuck⟩
  | .ix a i _ => mkV fun ρ => ((ev I F a).v ρ).bind fun d => ((ev I F i).v ρ).bind fun e => R.of (dIx d e)
  | .sl a lo hi _ _ => mkV fun ρ => ((ev I F a).v ρ).bind fun d => (evo I F lo ρ).bind fun l => (evo I F hi ρ).bind fun h => R.of (dSl d l h)
  | .rev a _ _ _ _ => mkV fun ρ => ((ev I F a).v ρ).bind fun d => R.of (dRev d)
  | .call f _ es _ _ => mkV fun ρ => ((evs I F es).l ρ).bind fun ds => match I.fns[f]? with
    | some fi => F f (ds ++ fi.fill ds.length)
    | none => .stuck
  | .bi b a _ _ => mkV fun ρ => ((ev I F a).v ρ).bind fun d => R.of (biS b d)
  | .isi t a _ _ _ => mkV fun ρ => ((ev I F a).v ρ).bind fun d => .ok (.bool (tyS t d))
  | .srev a _ _ _ => mkV fun ρ => ((ev I F a).v ρ).bind fun d => R.of (sRev d)
  | .sset a _ _ _ _ => mkV fun ρ => ((ev I F a).v ρ).bind fun d => R.of (sSet d)
  | .join s a _ _ => mkV fun ρ => ((ev I F s).v ρ).bind fun d => ((ev I F a).v ρ).bind fun e => R.of (joinS d e)
  | .leno i _ _ _ _ => mkV fun ρ => match ρ[i]? with
    | some (.own ds) => .ok (.int ds.length)
    | _ => .stuck
  | .comp elt tg it ifs _ own _ => mkV fun ρ => (evi I F it ρ).bind fun ds =>
      (compL (fun d => tg.set d (wipeS ρ (own.map (·.2)))) (fun ρ => ((evs I F ifs).allT ρ).nx) (fun ρ => ((ev I F elt).v ρ).nx) ds).bind fun ys => .ok (.list ys)
  | .exis i _ c _ _ _ _ _ => mkV fun ρ => match ρ[i]? with
    | some (.exc c' _) => match I.exs[c']? with
      | some xi => .ok (.bool (xi.up.contains c))
      | none => .stuck
    | _ => .stuck
  | .exat i _ _ _ _ => mkV fun ρ => match ρ[i]? with
    | some (.exc _ (some d)) => .ok d
    | _ => .stuck
@[simp] def evs (I : Info) (F : FT) : Es → Ps
  | .nil => ⟨fun _ => .ok [], fun _ => .stuck, fun _ => .stuck, fun _ => .stuck, fun _ => .stuck, fun _ => .ok true⟩
  | .cons a .nil => ⟨fun ρ => ((ev I F a).v ρ).bind fun d => .ok [d], (ev I F a).v, (ev I F a).v, (ev I F a).t, (ev I F a).t, (ev I F a).t⟩
  | .cons a r => ⟨fun ρ => ((ev I F a).v ρ).bind fun d => ((evs I F r).l ρ).bind fun ds => .ok (d :: ds),
      fun ρ => ((ev I F a).v ρ).bind fun d => (R.of (dTru d)).bind fun k => if k = true then (evs I F r).andV ρ else .ok d,
      fun ρ => ((ev I F a).v ρ).bind fun d => (R.of (dTru d)).bind fun k => if k = true then .ok d else (evs I F r).orV ρ,
      fun ρ => ((ev I F a).t ρ).bind fun k => if k = true then (evs I F r).andT ρ else .ok false,
      fun ρ => ((ev I F a).t ρ).bind fun k => if k = true then .ok true else (evs I F r).orT ρ,
      fun ρ => ((ev I F a).t ρ).bind fun k => if k = true then (evs I F r).allT ρ else .ok false⟩
@[simp] def evo (I : Info) (F : FT) : Oe → M (Option Int)
  | .no => fun _ => .ok none
  | .so a => fun ρ => ((ev I F a).v ρ).bind fun d => (R.of (dInt d)).bind fun i => .ok (some i)
@[simp] def evi (I : Info) (F : FT) : It → M (List D)
  | .seq a => fun ρ => ((ev I F a).v ρ).bind fun d => R.of (itemsS d)
  | .rng es _ _ => fun ρ => ((evs I F es).l ρ).bind fun ds => R.of (rngS ds)
  | .enum a _ _ => fun ρ => ((ev I F a).v ρ).bind fun d => R.of (enumS d)
  | .zip a b _ _ => fun ρ => ((ev I F a).v ρ).bind fun d => ((ev I F b).v ρ).bind fun e => R.of (zipS d e)
  | .revd a _ _ => fun ρ => ((ev I F a).v ρ).bind fun d => R.of (revS d)
end
end CH

/-! CH 5: facts of the written forms; the context. -/
namespace CH
open PySem PySem.Spec PyProof.Rows L2

/-! ### written forms -/
theorem star_py (e : E) (r : List Expr) (env : Env) : starEach (e.py :: r) env = (false, eval e.py env) :: starEach r env := by
  cases e <;> rfl
theorem star_any : ∀ (es : Es) (env : Env), ∀ pos, (backTo pos (starEach es.py env)).any (·.1) = false
  | .nil, env, pos => by rfl
  | .cons a r, env, pos => by
    rw [Es.py, star_py]
    exact star_any r env pos
theorem plain_py (e : E) : PlainIx e.py := by
  intro o i
  cases e <;> rfl
theorem fold_py (e : E) (env : Env) (x : Value) : foldedSetIterable e.py env x = pure x := by
  cases e <;> rfl
theorem fold_it (t : It) (env : Env) (x : Value) : foldedSetIterable t.py env x = pure x := by
  cases t <;> first | exact fold_py _ _ _ | rfl
theorem marks_py (op : CmpOp) (e : E) : behindInMarks op e.py = false := by
  cases e <;> rfl
theorem marks2_py (o1 o2 : CmpOp) (b c : E) : lastMarks [o1, o2] [b.py, c.py] = false := marks_py o2 c
def plainT : E → Bool
  | .bop .. => false
  | .not .. => false
  | .cmp .. => false
  | .chn .. => false
  | .ife .. => false
  | _ => true
theorem true_py {e : E} (h : plainT e = true) (env : Env) : ∀ whole, isTrue e.py env whole = (do let v ← whole; standAt e.py.pos; holding [v] (truthy v)) := by
  intro whole
  cases e <;> first | rfl | (cases h)
def isComp : E → Bool
  | .comp .. => true
  | _ => false
theorem swap_py {e : E} (h : isComp e = false) (t : Option Expr) (l : Nat) (env : Env) : swapsWith e.py t l env = pure false := by
  cases e <;> first | rfl | (cases h)
theorem base_cst (c : Const) (k : Nat) (p : Pos) (nm : Str) (env : Env) : attributeBase (.Constant c k p) nm env (eval (.Constant c k p) env) = eval (.Constant c k p) env := by rfl
theorem base_name (x : Str) (p : Pos) (nm : Str) (env : Env) : attributeBase (.Name x p) nm env (eval (.Name x p) env) = eval (.Name x p) env := by rfl

/-! ### the context -/
/-- a def's promise: it comes to what g tells -/
def spD (K : PySem.W.Frag) (ct : Nat → Option (Addr × Str)) (n : Nat) (g : List D → R D) : Sp := fun vs H Q E => vs.length = n ∧ ∃ B ds, Same B H ∧ DpAll K B vs ds ∧
  Ev ⟨K, ct, none, fun cls dx _ H' => E cls dx H'⟩ B H [] Q (g ds)
def bltNames : List Str := ["len", "list", "tuple", "sorted", "str", "isinstance", "int", "bool", "set", "range", "enumerate", "zip", "reversed"]
/-- a function of the table, where it stands -/
structure FnAt (k : Nat) (F : FT) (w : Wd) (X : Cx) (f : Nat) (fi : FInfo) : Prop where
  at_ : ∃ (fa : Addr) (fd : FuncData) (ps : List Str), FnOk X.prog X.w X.K X.mg X.base (L2.CX X.prog X.w) (k + 20) fa fd ps (spD w.K w.ct fi.np (F f)) ∧ X.mg fi.name = some (.ref fa) ∧ PySem.W.keepIn X.K (.ref fa) = true ∧
    ∀ n, n ≤ fi.np → fi.np - n ≤ fi.dfl.length → ∃ ds dvs, Binds X.K fd ps ds ∧ Vals dvs ds ∧ dvs.length = fi.np - n ∧ DpAll w.K (fun _ => none) dvs (fi.fill n)
/-- an exception class of the table -/
structure CtxOk (I : Info) (sc : Scope) (N : List Str) (k : Nat) (F : FT) (w : Wd) (X : Cx) : Prop where
  hK : X.K = w.K
  hN : X.N = N
  nd : N.Nodup
  sc1 : ∀ (x : Str) (kd : NameKind), sc.names.lookup x = some kd → kd ≠ .free → X.env.scope.names.lookup x = some kd
  sc2 : ∀ (x : Str), sc.names.lookup x = some .free → X.env.scope.names.lookup x = some .cell ∨ X.env.scope.names.lookup x = some .free
  fnc : ∀ (x : Str), sc.names.lookup x = some .cell → X.fn x = true
  un : X.A.units + 500 < cLine
  rm : X.calm = true → Room (k + 20) X.A
  tk : Takes X w.W
  gl : ∀ (g : Nat) (x : Str) (d : D), I.globs[g]? = some (x, d) → ∃ u v, X.mg x = some u ∧ RelV v u ∧ Dp w.K (fun _ => none) v d
  bl : ∀ x ∈ bltNames, X.mg x = none
  fs : X.calm = true → ∀ (f : Nat) (fi : FInfo), I.fns[f]? = some fi → FnAt k F w X f fi

/-! ### names -/
def visB (sc : Scope) (x : Str) : Bool := match sc.names.lookup x with
  | some .local => true
  | some .cell => true
  | some .free => true
  | _ => false
def glB (sc : Scope) (x : Str) : Bool := match sc.names.lookup x with
  | some .globalImplicit => true
  | _ => false
def locB (sc : Scope) (x : Str) : Bool := match sc.names.lookup x with
  | some .local => true
  | some .cell => true
  | _ => false
def okNm (x : Str) : Bool := !(x == ("__debug__" : Str)) && !(x == ("__classdict__" : Str))
theorem okNm1 {x : Str} (h : okNm x = true) : (x == ("__debug__" : Str)) = false := by
  unfold okNm at h
  rw [Bool.and_eq_true] at h
  simpa using h.1
theorem okNm2 {x : Str} (h : okNm x = true) : (x == ("__classdict__" : Str)) = false := by
  unfold okNm at h
  rw [Bool.and_eq_true] at h
  simpa using h.2
section
variable {I : Info} {sc : Scope} {N : List Str} {k : Nat} {F : FT} {w : Wd} {X : Cx}
theorem CtxOk.vis (C : CtxOk I sc N k F w X) {x : Str} (h : visB sc x = true) : Vis X.env.scope x := by
  unfold visB at h
  split at h
  · rename_i e
    exact .inl (C.sc1 x _ e (by decide))
  · rename_i e
    exact .inr (.inl (C.sc1 x _ e (by decide)))
  · rename_i e
    exact .inr (C.sc2 x e)
  · cases h
theorem CtxOk.gx (C : CtxOk I sc N k F w X) {x : Str} (h : glB sc x = true) : Gl X x := by
  unfold glB at h
  split at h
  · rename_i e
    exact C.sc1 x _ e (by decide)
  · cases h
theorem CtxOk.loc (C : CtxOk I sc N k F w X) {x : Str} (h : locB sc x = true) : Loc X.env.scope x := by
  unfold locB at h
  split at h
  · rename_i e
    exact .inl (C.sc1 x _ e (by decide))
  · rename_i e
    exact .inr (C.sc1 x _ e (by decide))
  · cases h
theorem CtxOk.lfn (C : CtxOk I sc N k F w X) {x : Str} (h : locB sc x = true) : X.fn x = true ∨ X.env.scope.names.lookup x = some .local := by
  unfold locB at h
  split at h
  · rename_i e
    exact .inr (C.sc1 x _ e (by decide))
  · rename_i e
    exact .inl (C.fnc x e)
  · cases h
end

/-! ### the block of a comprehension -/
theorem lookup_relS_free {sc : Scope} : ∀ {names : List (Str × NameKind)} {x : Str}, names.lookup x = some .free →
    (names.map fun (n, k) => if (k == NameKind.free && sc.kind == .function && sc.names.lookup n == some .cell) then (n, NameKind.cell) else (n, k)).lookup x = some .cell ∨
    (names.map fun (n, k) => if (k == NameKind.free && sc.kind == .function && sc.names.lookup n == some .cell) then (n, NameKind.cell) else (n, k)).lookup x = some .free
  | [], _, h => by simp at h
  | (n, k₀) :: r, x, h => by
    have ih := @lookup_relS_free sc r x
    show (List.lookup x ((if (k₀ == NameKind.free && sc.kind == .function && sc.names.lookup n == some .cell) = true then (n, NameKind.cell) else (n, k₀)) :: (r.map _)) = some .cell) ∨
      (List.lookup x ((if (k₀ == NameKind.free && sc.kind == .function && sc.names.lookup n == some .cell) = true then (n, NameKind.cell) else (n, k₀)) :: (r.map _)) = some .free)
    cases hx : x == n with
    | true =>
      simp only [List.lookup_cons, hx] at h
      cases h
      by_cases hc : (NameKind.free == NameKind.free && sc.kind == .function && sc.names.lookup n == some .cell) = true
      · rw [if_pos hc]
        simp only [List.lookup_cons, hx]
        exact .inl trivial
      · rw [if_neg hc]
        simp only [List.lookup_cons, hx]
        exact .inr trivial
    | false =>
      simp only [List.lookup_cons, hx] at h
      by_cases hc : (k₀ == NameKind.free && sc.kind == .function && sc.names.lookup n == some .cell) = true
      · rw [if_pos hc]; simp only [List.lookup_cons, hx]; exact ih h
      · rw [if_neg hc]; simp only [List.lookup_cons, hx]; exact ih h
abbrev Wd.cold (w : Wd) : Wd := { w with W := fun _ _ _ _ => False }
section
variable {I : Info} {sc : Scope} {N : List Str} {k : Nat} {F : FT} {w : Wd} {X : Cx}
theorem CtxOk.blk (C : CtxOk I sc N k F w X) (sc' : Scope) (s : Shared) (H : Hp) (A : Addr) (cl : List (Str × Addr)) (fp : List Addr) :
    CtxOk I sc' N k F w.cold (X.blk s H sc' (compEnvC sc' cl A X.env) fp) := by
  refine ⟨C.hK, C.hN, C.nd, fun x kd e n => ?_, fun x e => ?_, fun x e => ?_, C.un, C.rm, takes0, C.gl, C.bl, fun hc f fi e => ⟨(C.fs hc f fi e).at_⟩⟩
  · exact lookup_relS_keep n e
  · exact lookup_relS_free e
  · show (sc'.names.lookup x == some NameKind.cell) = true
    rw [e]; rfl
theorem CtxOk.blkOk (C : CtxOk I sc N k F w X) {sc' : Scope} {own : List (Str × Nat)} (h : blkC N sc sc' own = true) : BlkOk X.N X.env.scope sc' own := by
  have b := blkOk_by h
  rw [C.hN]
  refine ⟨b.kind, b.uniq, b.ix, fun y hy e => ?_, b.own⟩
  rcases b.free y hy e with q | q
  · exact .inl (C.sc1 _ _ q (by decide))
  · exact C.sc2 _ q
end

/-! ### which pieces are well written -/
def Tg.wf (N : List Str) (sc : Scope) : Tg → Bool
  | .one i x _ => decide (N[i]? = some x) && locB sc x
  | .two i x _ j y _ _ _ => decide (N[i]? = some x) && locB sc x && decide (N[j]? = some y) && locB sc y
def Tg.isTwo : Tg → Bool
  | .one .. => false
  | .two .. => true
def Tg.ixs : Tg → List Nat
  | .one i _ _ => [i]
  | .two i _ _ j _ _ _ _ => [i, j]
def Es.len : Es → Nat
  | .nil => 0
  | .cons _ r => r.len + 1
def isCst : E → Bool
  | .cst .. => true
  | _ => false
mutual
def E.wf (I : Info) (N : List Str) (sc : Scope) (calm : Bool) : E → Bool
  | .var i x _ => decide (N[i]? = some x) && visB sc x && okNm x
  | .glob g x _ => glB sc x && okNm x && decide ((I.globs[g]?).map (·.1) = some x)
  | .cst _ _ _ => true
  | .tup es _ _ => es.wf I N sc calm && decide (es.len ≤ 100)
  | .lst es _ => es.wf I N sc calm && decide (es.len ≤ 100)
  | .bin _ a b _ => a.wf I N sc calm && b.wf I N sc calm
  | .neg a _ => a.wf I N sc calm
  | .not a _ => a.wf I N sc calm
  | .bop _ es _ => es.wf I N sc calm
  | .cmp _ a b _ => a.wf I N sc calm && b.wf I N sc calm
  | .chn _ _ a b c _ => a.wf I N sc calm && b.wf I N sc calm && c.wf I N sc calm
  | .ife t a b _ => t.wf I N sc calm && a.wf I N sc calm && b.wf I N sc calm
  | .ix a i _ => a.wf I N sc calm && i.wf I N sc calm
  | .sl a lo hi _ _ => a.wf I N sc calm && lo.wf I N sc calm && hi.wf I N sc calm
  | .rev a _ _ _ _ => false
  | .call f x es _ _ => calm && glB sc x && okNm x && es.wf I N sc calm && (match I.fns[f]? with
    | some fi => decide (fi.name = x) && decide (es.len ≤ fi.np) && decide (fi.np - es.len ≤ fi.dfl.length)
    | none => false)
  | .bi b a _ _ => calm && glB sc b.nm && a.wf I N sc calm && (match b with
    | .sorted => false
    | .str => false
    | _ => true)
  | .isi t a _ _ _ => glB sc "isinstance" && glB sc t.nm && a.wf I N sc calm
  | .srev a _ _ _ => false
  | .sset a _ _ _ _ => false
  | .join s a p q => false
  | .leno i x _ _ _ => decide (N[i]? = some x) && visB sc x && okNm x && glB sc "len"
  | .comp elt tg it ifs sc' own _ => calm && it.wf I N sc calm && (match it with
      | .enum .. => tg.isTwo
      | .zip .. => tg.isTwo
      | _ => true) && blkC N sc sc' own && tg.wf N sc' && (tg.ixs.all fun i => (own.map (·.2)).contains i) && ifs.wf I N sc' calm && decide (ifs.len ≤ 1) && elt.wf I N sc' calm
  | .exis i x c y _ _ _ _ => false
  | .exat i x f _ _ => false
def Es.wf (I : Info) (N : List Str) (sc : Scope) (calm : Bool) : Es → Bool
  | .nil => true
  | .cons a r => a.wf I N sc calm && r.wf I N sc calm
def Oe.wf (I : Info) (N : List Str) (sc : Scope) (calm : Bool) : Oe → Bool
  | .no => true
  | .so a => a.wf I N sc calm
def It.wf (I : Info) (N : List Str) (sc : Scope) (calm : Bool) : It → Bool
  | .seq a => a.wf I N sc calm
  | .rng es _ _ => glB sc "range" && es.wf I N sc calm && decide (es.len ≤ 3)
  | .enum a _ _ => glB sc "enumerate" && a.wf I N sc calm
  | .zip a b _ _ => glB sc "zip" && a.wf I N sc calm && b.wf I N sc calm
  | .revd a _ _ => glB sc "reversed" && a.wf I N sc calm
end
end CH

/-! CH 6: the pieces' rules. -/
namespace CH
open PySem PySem.Spec PyProof.Rows L2

theorem R.bind_assoc {α β γ : Type} (r : R α) (f : α → R β) (g : β → R γ) : (r.bind f).bind g = r.bind fun a => (f a).bind g := by
  cases r <;> rfl
theorem Ev.imp {w : Wd} {B H : Hp} {σ : L2.St} {Q Q' : VK} {r : R D} (h : Ev w B H σ Q r) (i : ∀ v H', Q v H' → Q' v H') : Ev w B H σ Q' r := by
  cases r with
  | ok d => exact fun v B' H' e hd => i _ _ (h v B' H' e hd)
  | exc c f => exact h
  | stuck => exact h
theorem EvT.imp {w : Wd} {B H : Hp} {σ : L2.St} {Q Q' : Bool → Hp → Prop} {r : R Bool} (h : EvT w B H σ Q r) (i : ∀ v H', Q v H' → Q' v H') : EvT w B H σ Q' r := by
  cases r with
  | ok d => exact fun B' H' e => i _ _ (h B' H' e)
  | exc c f => exact h
  | stuck => exact h
theorem EvA.imp {w : Wd} {B H : Hp} {σ : L2.St} {Q Q' : List V → Hp → Prop} {r : R (List D)} (h : EvA w B H σ Q r) (i : ∀ v H', Q v H' → Q' v H') : EvA w B H σ Q' r := by
  cases r with
  | ok d => exact fun v B' H' e hd => i _ _ (h v B' H' e hd)
  | exc c f => exact h
  | stuck => exact h
theorem tEi {w : Wd} {m : M D} {σ : L2.St} {H : Hp} {Q Q' : VK} (h : tE w m σ H Q) (i : ∀ v H', Q v H' → Q' v H') : tE w m σ H Q' := let ⟨B, ρ, r, e⟩ := h; ⟨B, ρ, r, e.imp i⟩
theorem tAi {w : Wd} {m : M (List D)} {σ : L2.St} {H : Hp} {Q Q' : List V → Hp → Prop} (h : tA w m σ H Q) (i : ∀ v H', Q v H' → Q' v H') : tA w m σ H Q' := let ⟨B, ρ, r, e⟩ := h; ⟨B, ρ, r, e.imp i⟩
theorem tTi {w : Wd} {m : M Bool} {σ : L2.St} {H : Hp} {Q Q' : Bool → Hp → Prop} (h : tT w m σ H Q) (i : ∀ v H', Q v H' → Q' v H') : tT w m σ H Q' := let ⟨B, ρ, r, e⟩ := h; ⟨B, ρ, r, e.imp i⟩
theorem ev_of {w : Wd} {B H : Hp} {σ : L2.St} {Q : VK} {o : Option D} (h : Ev w B H σ Q (R.of o)) : ∃ z, o = some z ∧ ∀ v B' H', Ext B H B' H' → Dp w.K B' v z → Q v H' := by
  cases o with
  | none => exact h.elim
  | some z => exact ⟨z, rfl, h⟩
theorem evT_of {w : Wd} {B H : Hp} {σ : L2.St} {Q : Bool → Hp → Prop} {o : Option Bool} (h : EvT w B H σ Q (R.of o)) : ∃ z, o = some z ∧ ∀ B' H', Ext B H B' H' → Q z H' := by
  cases o with
  | none => exact h.elim
  | some z => exact ⟨z, rfl, h⟩
theorem of_bind {α β : Type} {o : Option α} {k : α → R β} : ((R.of o).bind k) = match o with
  | some a => k a
  | none => .stuck := by cases o <;> rfl

section
variable {X : Cx} {w : Wd} {e : Expr} {a b c : Expr} {ma mb mc : M D} {pos : Pos}
/-- a value's truth -/
theorem tst (hK : X.K = w.K) (h : PE X e (tE w ma)) (he : ∀ whole, isTrue e X.env whole = (do let v ← whole; standAt e.pos; holding [v] (truthy v))) : PT X e (tT w (mkV ma).t) := by
  refine PT.imp (pt_truth h he) fun σ H Q ⟨B, ρ, r, q⟩ => ?_
  refine tEi (tE_bindT r q) fun v H' ⟨d, B', e1, x, hd, q'⟩ => ?_
  obtain ⟨k, e2, q2⟩ := evT_of q'
  exact ⟨k, hK ▸ tru_of (hd.same x.bh) e2, q2 _ _ (Ext.refl x.bh)⟩
/-- two pieces and an operation -/
theorem two (hK : X.K = w.K) {f : D → D → Option D} (h : PE X e (tOp (r2 X.K f) (tE w ma) (tE w mb))) : PE X e (tE w fun ρ => (ma ρ).bind fun d => (mb ρ).bind fun e => R.of (f d e)) := by
  refine PE.imp h fun σ H Q ⟨B, ρ, r, q⟩ => ?_
  refine tEi (tE_bind r q) fun v H' ⟨d, B', e1, x, hd, q'⟩ => ?_
  refine tEi (tE_bind (r.ext x) q') fun u H'' ⟨d', B'', e2, x', hd', q''⟩ => ?_
  obtain ⟨z, ez, qz⟩ := ev_of q''
  rw [hK]
  exact ⟨B'', d, d', z, x'.bh, hd.same x'.bb, hd', ez, qz⟩
theorem one {r1 : V → Hp → VK → Prop} {f : D → Option D} (hr : ∀ v d z B H Q, Same B H → Dp w.K B v d → f d = some z → (∀ v B' H', Ext B H B' H' → Dp w.K B' v z → Q v H') → r1 v H Q)
    (h : PE X e (fun σ H Q => tE w ma σ H fun v H1 => r1 v H1 Q)) : PE X e (tE w fun ρ => (ma ρ).bind fun d => R.of (f d)) := by
  refine PE.imp h fun σ H Q ⟨B, ρ, r, q⟩ => ?_
  refine tEi (tE_bind r q) fun v H' ⟨d, B', e1, x, hd, q'⟩ => ?_
  obtain ⟨z, ez, qz⟩ := ev_of q'
  exact hr v d z B' H' Q x.bh hd ez qz
theorem p_bin (hK : X.K = w.K) (op : Operator) (ha : PE X a (tE w ma)) (hb : PE X b (tE w mb)) : PE X (.BinOp a op b pos) (tE w fun ρ => (ma ρ).bind fun d => (mb ρ).bind fun e => R.of (dBin op d e)) :=
  two hK (pe_op (or_bin op) ha hb)
theorem p_cmp (hK : X.K = w.K) (hu : X.A.units + 500 < cLine) (op : CmpOp) (ha : PE X a (tE w ma)) (hb : PE X b (tE w mb)) (hm : behindInMarks op b = false) :
    PE X (.Compare a [op] [b] pos) (tE w fun ρ => (ma ρ).bind fun d => (mb ρ).bind fun e => R.of (dCmp op d e)) := two hK (pe_cmpR (or_cmp hu op) ha hb hm)
theorem p_cmpT (hK : X.K = w.K) (hu : X.A.units + 500 < cLine) (op : CmpOp) (ha : PE X a (tE w ma)) (hb : PE X b (tE w mb)) (hm : behindInMarks op b = false) :
    PT X (.Compare a [op] [b] pos) (tT w (mkV fun ρ => (ma ρ).bind fun d => (mb ρ).bind fun e => R.of (dCmp op d e)).t) := by
  refine PT.imp (pt_cmpR (or_cmp hu op) ha hb hm) fun σ H Q ⟨B, ρ, r, q⟩ => ?_
  simp only [mkV, R.bind_assoc] at q
  refine tEi (tE_bindT r q) fun v H' ⟨d, B', e1, x, hd, q'⟩ => ?_
  refine tEi (tE_bindT (r.ext x) q') fun u H'' ⟨d', B'', e2, x', hd', q''⟩ => ?_
  rw [of_bind] at q''
  cases ez : dCmp op d d' with
  | none => rw [ez] at q''; exact q''.elim
  | some z =>
    rw [ez] at q''
    obtain ⟨k, rfl⟩ := cmp_bool ez
    rw [hK]
    refine ⟨B'', d, d', _, x'.bh, hd.same x'.bb, hd', ez, fun v B3 H3 x3 h3 => ?_⟩
    cases h3
    exact ⟨k, rfl, q'' _ _ x3⟩
theorem chain_read (hK : X.K = w.K) {o1 o2 : CmpOp} {σ : L2.St} {B H : Hp} {ρ : List Sl} {Q : VK} (r : Rel w.K w.sx B H σ ρ)
    (q : Ev w B H σ Q ((ma ρ).bind fun d => (mb ρ).bind fun e => (R.of (dCmp o1 d e)).bind fun z => (R.of (dBool z)).bind fun k => if k = true then (mc ρ).bind fun f => R.of (dCmp o2 e f) else .ok (.bool false))) :
    tChain (r2 X.K (dCmp o1)) (r2 X.K (dCmp o2)) (tE w ma) (tE w mb) (tE w mc) σ H Q := by
  refine tEi (tE_bind r q) fun v H' ⟨d, B', e1, x, hd, q'⟩ => ?_
  refine tEi (tE_bind (r.ext x) q') fun u H'' ⟨d', B'', e2, x', hd', q''⟩ => ?_
  rw [of_bind] at q''
  cases ez : dCmp o1 d d' with
  | none => rw [ez] at q''; exact q''.elim
  | some z =>
    rw [ez] at q''
    obtain ⟨k, rfl⟩ := cmp_bool ez
    rw [hK]
    refine ⟨B'', d, d', _, x'.bh, hd.same x'.bb, hd', ez, fun v B3 H3 x3 h3 => ?_⟩
    cases h3
    refine ⟨k, rfl, ?_⟩
    have q3 : Ev w B'' H'' σ Q (if k = true then (mc ρ).bind fun f => R.of (dCmp o2 d' f) else .ok (.bool false)) := q''
    cases k with
    | false =>
      rw [if_neg Bool.false_ne_true] at q3 ⊢
      exact q3 _ _ _ x3 (.bl false)
    | true =>
      rw [if_pos rfl] at q3 ⊢
      refine tEi (tE_bind ((r.ext x).ext (x'.trans x3)) (Ev.mono x3 q3)) fun v4 H4 ⟨d4, B4, e4, x4, hd4, q4⟩ => ?_
      obtain ⟨z, ez, qz⟩ := ev_of q4
      exact ⟨B4, d', d4, z, x4.bh, hd'.same (x3.bb.trans x4.bb), hd4, ez, qz⟩
theorem p_chn (hK : X.K = w.K) (hu : X.A.units + 500 < cLine) (o1 o2 : CmpOp) (ha : PE X a (tE w ma)) (hb : PE X b (tE w mb)) (hc : PE X c (tE w mc)) (hm : lastMarks [o1, o2] [b, c] = false) :
    PE X (.Compare a [o1, o2] [b, c] pos) (tE w fun ρ => (ma ρ).bind fun d => (mb ρ).bind fun e => (R.of (dCmp o1 d e)).bind fun z => (R.of (dBool z)).bind fun k => if k = true then (mc ρ).bind fun f => R.of (dCmp o2 e f) else .ok (.bool false)) :=
  PE.imp (pe_chain (or_cmp hu o1) (or_cmp hu o2) ha hb hc hm) fun σ H Q ⟨B, ρ, r, q⟩ => chain_read hK r q
theorem p_chnT (hK : X.K = w.K) (hu : X.A.units + 500 < cLine) (o1 o2 : CmpOp) (ha : PE X a (tE w ma)) (hb : PE X b (tE w mb)) (hc : PE X c (tE w mc)) (hm : lastMarks [o1, o2] [b, c] = false) :
    PT X (.Compare a [o1, o2] [b, c] pos) (tT w (mkV fun ρ => (ma ρ).bind fun d => (mb ρ).bind fun e => (R.of (dCmp o1 d e)).bind fun z => (R.of (dBool z)).bind fun k => if k = true then (mc ρ).bind fun f => R.of (dCmp o2 e f) else .ok (.bool false)).t) := by
  refine PT.imp (pt_chain (or_cmp hu o1) (or_cmp hu o2) ha hb hc hm) fun σ H Q ⟨B, ρ, r, q⟩ => ?_
  refine chain_read (w := w) hK r ?_
  simp only [mkV] at q
  -- the value is a truth value
  generalize hm : ((ma ρ).bind fun d => (mb ρ).bind fun e => (R.of (dCmp o1 d e)).bind fun z => (R.of (dBool z)).bind fun k => if k = true then (mc ρ).bind fun f => R.of (dCmp o2 e f) else R.ok (.bool false)) = res at q ⊢
  cases res with
  | stuck => exact q
  | exc c f => exact q
  | ok z =>
    have hz : ∃ k, z = .bool k := by
      cases e1 : ma ρ with
      | ok d =>
        cases e2 : mb ρ with
        | ok d' =>
          simp only [e1, e2, R.bind] at hm
          cases e3 : dCmp o1 d d' with
          | none => rw [e3] at hm; cases hm
          | some y =>
            rw [e3] at hm
            obtain ⟨k, rfl⟩ := cmp_bool e3
            cases k with
            | false => cases hm; exact ⟨_, rfl⟩
            | true =>
              cases e4 : mc ρ with
              | ok d4 =>
                simp only [e4, R.of, dBool, if_true] at hm
                cases e5 : dCmp o2 d' d4 with
                | none => rw [e5] at hm; cases hm
                | some y5 =>
                  rw [e5] at hm
                  cases hm
                  exact cmp_bool e5
              | exc _ _ => simp [e4, R.of, dBool, R.bind] at hm
              | stuck => simp [e4, R.of, dBool, R.bind] at hm
        | exc _ _ => simp [e1, e2, R.bind] at hm
        | stuck => simp [e1, e2, R.bind] at hm
      | exc _ _ => simp [e1, R.bind] at hm
      | stuck => simp [e1, R.bind] at hm
    obtain ⟨k, rfl⟩ := hz
    intro v B' H' x hd
    cases hd
    exact ⟨k, rfl, q _ _ x⟩
theorem p_neg (ha : PE X a (tE w ma)) : PE X (.UnaryOp .USub a pos) (tE w fun ρ => (ma ρ).bind fun d => R.of (dNeg d)) := by
  refine one (f := dNeg) (fun v d z B H Q sb hd hz q => ?_) (pe_un un_neg ha)
  cases hd with
  | int i => cases hz; exact ⟨i, rfl, fin_same sb (.int _) q⟩
  | _ => cases hz
theorem p_not (hK : X.K = w.K) (ha : PE X a (tE w ma)) : PE X (.UnaryOp .Not a pos) (tE w fun ρ => (ma ρ).bind fun d => (R.of (dTru d)).bind fun b => .ok (.bool (!b))) := by
  refine PE.imp (pe_notT ha) fun σ H Q ⟨B, ρ, r, q⟩ => ?_
  refine tEi (tE_bind r q) fun v H' ⟨d, B', e1, x, hd, q'⟩ => ?_
  rw [of_bind] at q'
  cases ez : dTru d with
  | none => rw [ez] at q'; exact q'.elim
  | some k =>
    rw [ez] at q'
    exact ⟨k, hK ▸ tru_of (hd.same x.bh) ez, fin_same x.bh (.bl (!k)) q'⟩
theorem p_notT {mt : M Bool} (ha : PT X a (tT w mt)) : PT X (.UnaryOp .Not a pos) (tT w fun ρ => (mt ρ).bind fun b => .ok (!b)) := by
  refine PT.imp (pt_not ha) fun σ H Q ⟨B, ρ, r, q⟩ => ?_
  exact tTi (tT_bindT r q) fun b H' ⟨B', e1, x, q'⟩ => q' _ _ (Ext.refl x.bh)
theorem p_ife {mt : M Bool} (ht : PT X c (tT w mt)) (ha : PE X a (tE w ma)) (hb : PE X b (tE w mb)) : PE X (.IfExp c a b pos) (tE w fun ρ => (mt ρ).bind fun k => if k = true then ma ρ else mb ρ) := by
  refine PE.imp (pe_ifExp ht ha hb) fun σ H Q ⟨B, ρ, r, q⟩ => ?_
  refine tTi (tT_bind r q) fun k H' ⟨B', e1, x, q'⟩ => ?_
  cases k with
  | true => rw [if_pos rfl] at q' ⊢; exact ⟨B', ρ, r.ext x, q'⟩
  | false => rw [if_neg Bool.false_ne_true] at q' ⊢; exact ⟨B', ρ, r.ext x, q'⟩
theorem p_ix (hK : X.K = w.K) (ha : PE X a (tE w ma)) (hb : PE X b (tE w mb)) (hs : PlainIx b) : PE X (.Subscript a b pos) (tE w fun ρ => (ma ρ).bind fun d => (mb ρ).bind fun e => R.of (dIx d e)) :=
  two hK (pe_ix ix_dat ha hb hs)
theorem dp_int {K : PySem.W.Frag} {B : Hp} {v : V} {d : D} {i : Int} (h : Dp K B v d) (e : dInt d = some i) : v = .int i := by
  cases h with
  | int j => cases e; rfl
  | _ => cases e
end
end CH

/-! CH 7: the pieces' rules: names, displays, slices, and, or, calls. -/
namespace CH
open PySem PySem.Spec PyProof.Rows L2
section
variable {X : Cx} {w : Wd} {e : Expr} {es : List Expr} {a b c : Expr} {ma mb mc : M D} {ms : M (List D)} {pos : Pos}
theorem p_var {i : Nat} {x : Str} (hN : X.N[i]? = some x) (hv : Vis X.env.scope x) (h1 : (x == ("__debug__" : Str)) = false) (h2 : (x == ("__classdict__" : Str)) = false) :
    PE X (.Name x pos) (tE w fun ρ => match ρ[i]? with | some (.dat d) => .ok d | _ => .stuck) := by
  refine PE.imp (pe_var hN hv h1 h2) fun σ H Q ⟨B, ρ, r, q⟩ => ?_
  dsimp only at q
  split at q
  · rename_i d hd
    obtain ⟨v, hv, hp⟩ := r.dat i d hd
    exact ⟨v, hv, fin_same r.sub hp q⟩
  · exact q.elim
theorem p_leno (hm : X.mg "len" = none) (hg : Gl X "len") {i : Nat} {x : Str} {p q : Pos} (hN : X.N[i]? = some x) (hv : Vis X.env.scope x) (h1 : (x == ("__debug__" : Str)) = false) (h2 : (x == ("__classdict__" : Str)) = false) :
    PE X (.Call (.Name "len" p) [.Name x q] [] pos) (tE w fun ρ => match ρ[i]? with | some (.own ds) => .ok (.int ds.length) | _ => .stuck) := by
  refine PE.imp (pe_callB call_len_seq hg hm PySem.boot_len (pa_cons (pe_var hN hv h1 h2) pa_nil)) fun σ H Q ⟨B, ρ, r, q⟩ => ?_
  dsimp only at q
  split at q
  · rename_i ds hd
    obtain ⟨a, xs, hv, hH, hB, hp⟩ := r.own i ds hd
    refine ⟨.ref a, hv, a, xs, rfl, .inl (SqL.of hH), ?_⟩
    rw [hp.length]
    exact fin_same r.sub (.int _) q
  · exact q.elim
theorem p_cst {c : Const} {k : Nat} : PE X (.Constant c k pos) (tE w fun _ => R.of (cstD c)) := by
  cases c with
  | none => exact PE.imp pe_non fun σ H Q ⟨B, ρ, r, q⟩ => fin_same r.sub .non q
  | bool b => exact PE.imp pe_bl fun σ H Q ⟨B, ρ, r, q⟩ => fin_same r.sub (.bl b) q
  | int i => exact PE.imp pe_int fun σ H Q ⟨B, ρ, r, q⟩ => fin_same r.sub (.int i) q
  | str s => exact PE.imp pe_str fun σ H Q ⟨B, ρ, r, q⟩ => fin_same r.sub (.str s) q
  | _ => exact ⟨fun pins s σ H Q I ⟨B, ρ, r, q⟩ => q.elim⟩
theorem p_glob {x : Str} {d : D} {u : Value} {v : V} (hg : Gl X x) (hm : X.mg x = some u) (rv : RelV v u) (hd : Dp w.K (fun _ => none) v d) (h1 : (x == ("__debug__" : Str)) = false) : PE X (.Name x pos) (tE w fun _ => R.of (some d)) :=
  PE.imp (pe_glob hg hm rv h1) fun σ H Q ⟨B, ρ, r, q⟩ => fin_same r.sub (hd.same fun b o e => nomatch e) q
theorem p_nil : PA X [] (tA w fun _ => .ok []) := PA.imp pa_nil fun σ H Q ⟨B, ρ, r, q⟩ => q _ _ _ (Ext.refl r.sub) .nil
theorem p_cons (ha : PE X a (tE w ma)) (hr : PA X es (tA w ms)) (hs : starEach (a :: es) X.env = (false, eval a X.env) :: starEach es X.env) :
    PA X (a :: es) (tA w fun ρ => (ma ρ).bind fun d => (ms ρ).bind fun ds => .ok (d :: ds)) := by
  refine PA.imp (pa_cons ha hr hs) fun σ H Q ⟨B, ρ, r, q⟩ => ?_
  refine tEi (tE_bindA r q) fun v H' ⟨d, B', e1, x, hd, q'⟩ => ?_
  refine tAi (tA_bindA (r.ext x) q') fun vs H'' ⟨ds, B'', e2, x', hds, q''⟩ => ?_
  exact q'' _ _ _ (Ext.refl x'.bh) (.cons (hd.same x'.bb) hds)
theorem p_tup {k : Nat} (h : PA X es (tA w ms)) (hn : ∀ ρ ds, ms ρ = .ok ds → ds.length ≤ 100) : PE X (.Tuple es k pos) (tE w fun ρ => (ms ρ).bind fun ds => .ok (.tuple ds)) := by
  refine PE.imp (pe_tup h) fun σ H Q ⟨B, ρ, r, q⟩ => ?_
  refine tAi (tA_bind r q) fun vs H' ⟨ds, B', e1, x, hds, q'⟩ => ?_
  have hl := hds.length
  have h1 := hn _ _ e1
  exact ⟨by have := sizeLine_eq; omega, fin_tup x.bh hds q'⟩
theorem p_lst (h : PA X es (tA w ms)) (hn : ∀ ρ ds, ms ρ = .ok ds → ds.length ≤ 100) : PE X (.List es pos) (tE w fun ρ => (ms ρ).bind fun ds => .ok (.list ds)) := by
  refine PE.imp (pe_lst h) fun σ H Q ⟨B, ρ, r, q⟩ => ?_
  refine tAi (tA_bind r q) fun vs H' ⟨ds, B', e1, x, hds, q'⟩ => ?_
  have hl := hds.length
  have h1 := hn _ _ e1
  exact ⟨by have := sizeLine_eq; omega, fin_lst x.bh hds q'⟩
/-- an optional part of a slice -/
def EvO (w : Wd) (B H : Hp) (σ : L2.St) (Q : Option Int → Hp → Prop) : R (Option Int) → Prop
  | .ok o => ∀ B' H', Ext B H B' H' → Q o H'
  | .exc c f => ∀ cls dx B' H', Ext B H B' H' → ExcAt w.K w.ct B' c f cls dx → w.W cls dx σ H'
  | .stuck => False
def tOo (w : Wd) (m : M (Option Int)) : TO := fun σ H Q => ∃ B ρ, Rel w.K w.sx B H σ ρ ∧ EvO w B H σ Q (m ρ)
theorem PO.imp {X : Cx} {o : Option Expr} {t t' : TO} (h : PO X o t) (i : ∀ σ H Q, t' σ H Q → t σ H Q) : PO X o t' := ⟨fun pins s σ H Q I q => h.run pins s σ H Q I (i _ _ _ q)⟩
theorem tO_bind {B H : Hp} {σ : L2.St} {ρ : List Sl} {m : M (Option Int)} {k : Option Int → R D} {Q : VK} (r : Rel w.K w.sx B H σ ρ) (h : Ev w B H σ Q ((m ρ).bind k)) :
    tOo w m σ H (fun o H' => ∃ B', m ρ = .ok o ∧ Ext B H B' H' ∧ Ev w B' H' σ Q (k o)) := by
  refine ⟨B, ρ, r, ?_⟩
  cases e : m ρ with
  | ok d =>
    rw [e] at h
    exact fun B' H' x => ⟨B', rfl, x, Ev.mono x h⟩
  | exc c f => rw [e] at h; exact h
  | stuck => rw [e] at h; exact h
theorem tOi {m : M (Option Int)} {σ : L2.St} {H : Hp} {Q Q' : Option Int → Hp → Prop} (h : tOo w m σ H Q) (i : ∀ v H', Q v H' → Q' v H') : tOo w m σ H Q' := by
  obtain ⟨B, ρ, r, e⟩ := h
  refine ⟨B, ρ, r, ?_⟩
  cases e1 : m ρ with
  | ok d => rw [e1] at e; exact fun B' H' x => i _ _ (e B' H' x)
  | exc c f => rw [e1] at e; exact e
  | stuck => rw [e1] at e; exact e
theorem p_no : PO X none (tOo w fun _ => .ok none) := PO.imp po_none fun σ H Q ⟨B, ρ, r, q⟩ => q _ _ (Ext.refl r.sub)
theorem p_so (h : PE X e (tE w ma)) : PO X (some e) (tOo w fun ρ => (ma ρ).bind fun d => (R.of (dInt d)).bind fun i => .ok (some i)) := by
  refine PO.imp (po_some h) fun σ H Q ⟨B, ρ, r, q⟩ => ?_
  dsimp only at q
  refine ⟨B, ρ, r, ?_⟩
  cases e1 : ma ρ with
  | ok d =>
    rw [e1] at q
    cases e2 : dInt d with
    | none => simp only [R.bind, e2, R.of] at q; exact q.elim
    | some i =>
      simp only [R.bind, e2, R.of] at q
      exact fun v B' H' x hd => ⟨i, dp_int hd e2, q _ _ x⟩
  | exc c f => rw [e1] at q; exact q
  | stuck => rw [e1] at q; exact q
theorem p_sl (hK : X.K = w.K) {lo hi : Option Expr} {ml mh : M (Option Int)} {p2 : Pos} (ha : PE X a (tE w ma)) (hl : PO X lo (tOo w ml)) (hh : PO X hi (tOo w mh)) :
    PE X (.Subscript a (.Slice lo hi none p2) pos) (tE w fun ρ => (ma ρ).bind fun d => (ml ρ).bind fun l => (mh ρ).bind fun h => R.of (dSl d l h)) := by
  refine PE.imp (pe_slice sl_dat ha hl hh) fun σ H Q ⟨B, ρ, r, q⟩ => ?_
  refine tEi (tE_bind r q) fun v H' ⟨d, B', e1, x, hd, q'⟩ => ?_
  refine tOi (tO_bind (r.ext x) q') fun l H2 ⟨B2, e2, x2, q2⟩ => ?_
  refine tOi (tO_bind ((r.ext x).ext x2) q2) fun h H3 ⟨B3, e3, x3, q3⟩ => ?_
  obtain ⟨z, ez, qz⟩ := ev_of q3
  rw [hK]
  exact ⟨B3, d, z, x3.bh, hd.same (x2.bb.trans x3.bb), ez, qz⟩

/-! ### and, or -/
theorem p_one {op : BoolOp} (h : PE X a (tE w ma)) : PE X (.BoolOp op [a] pos) (tE w ma) := pe_one h
theorem p_and (hK : X.K = w.K) {rest : List Expr} (ha : PE X a (tE w ma)) (hb : PE X (.BoolOp .And (b :: rest) pos) (tE w mb)) :
    PE X (.BoolOp .And (a :: b :: rest) pos) (tE w fun ρ => (ma ρ).bind fun d => (R.of (dTru d)).bind fun k => if k = true then mb ρ else .ok d) := by
  refine PE.imp (pe_andT ha hb) fun σ H Q ⟨B, ρ, r, q⟩ => ?_
  refine tEi (tE_bind r q) fun v H' ⟨d, B', e1, x, hd, q'⟩ => ?_
  rw [of_bind] at q'
  cases ez : dTru d with
  | none => rw [ez] at q'; exact q'.elim
  | some k =>
    rw [ez] at q'
    refine ⟨k, hK ▸ tru_of (hd.same x.bh) ez, ?_⟩
    have q2 : Ev w B' H' σ Q (if k = true then mb ρ else .ok d) := q'
    cases k with
    | true => rw [if_pos rfl] at q2 ⊢; exact ⟨B', ρ, r.ext x, q2⟩
    | false => rw [if_neg Bool.false_ne_true] at q2 ⊢; exact fin_same x.bh hd q2
theorem p_or (hK : X.K = w.K) {rest : List Expr} (ha : PE X a (tE w ma)) (hb : PE X (.BoolOp .Or (b :: rest) pos) (tE w mb)) :
    PE X (.BoolOp .Or (a :: b :: rest) pos) (tE w fun ρ => (ma ρ).bind fun d => (R.of (dTru d)).bind fun k => if k = true then .ok d else mb ρ) := by
  refine PE.imp (pe_orT ha hb) fun σ H Q ⟨B, ρ, r, q⟩ => ?_
  refine tEi (tE_bind r q) fun v H' ⟨d, B', e1, x, hd, q'⟩ => ?_
  rw [of_bind] at q'
  cases ez : dTru d with
  | none => rw [ez] at q'; exact q'.elim
  | some k =>
    rw [ez] at q'
    refine ⟨k, hK ▸ tru_of (hd.same x.bh) ez, ?_⟩
    have q2 : Ev w B' H' σ Q (if k = true then .ok d else mb ρ) := q'
    cases k with
    | true => rw [if_pos rfl] at q2 ⊢; exact fin_same x.bh hd q2
    | false => rw [if_neg Bool.false_ne_true] at q2 ⊢; exact ⟨B', ρ, r.ext x, q2⟩
theorem p_andT {rest : List Expr} {mt mu : M Bool} (ha : PT X a (tT w mt)) (hb : PW X (.BoolOp .And (b :: rest) pos) (tT w mu)) :
    PW X (.BoolOp .And (a :: b :: rest) pos) (tT w fun ρ => (mt ρ).bind fun k => if k = true then mu ρ else .ok false) := by
  refine PW.imp (pw_and ha hb) fun σ H Q ⟨B, ρ, r, q⟩ => ?_
  refine tTi (tT_bindT r q) fun k H' ⟨B', e1, x, q'⟩ => ?_
  cases k with
  | true => rw [if_pos rfl] at q' ⊢; exact ⟨B', ρ, r.ext x, q'⟩
  | false => rw [if_neg Bool.false_ne_true] at q' ⊢; exact q' _ _ (Ext.refl x.bh)
theorem p_orT {rest : List Expr} {mt mu : M Bool} (ha : PT X a (tT w mt)) (hb : PW X (.BoolOp .Or (b :: rest) pos) (tT w mu)) :
    PW X (.BoolOp .Or (a :: b :: rest) pos) (tT w fun ρ => (mt ρ).bind fun k => if k = true then .ok true else mu ρ) := by
  refine PW.imp (pw_or ha hb) fun σ H Q ⟨B, ρ, r, q⟩ => ?_
  refine tTi (tT_bindT r q) fun k H' ⟨B', e1, x, q'⟩ => ?_
  cases k with
  | true => rw [if_pos rfl] at q' ⊢; exact q' _ _ (Ext.refl x.bh)
  | false => rw [if_neg Bool.false_ne_true] at q' ⊢; exact ⟨B', ρ, r.ext x, q'⟩

/-! ### calls of defs -/
/-- what a promise of the table asks, at the caller's slots -/
theorem sp_of {n : Nat} {g : List D → R D} {B H : Hp} {σ : L2.St} {Q : VK} {vs : List V} {ds : List D} (hl : ds.length = n) (sb : Same B H) (r : DpAll w.K B vs ds) (q : Ev w B H σ Q (g ds)) : spD w.K w.ct n g vs H Q (fun cls d H' => w.W cls d σ H') := by
  refine ⟨by rw [r.length]; exact hl, B, ds, sb, r, ?_⟩
  cases e : g ds with
  | ok d => rw [e] at q; exact q
  | exc c f => rw [e] at q; exact q
  | stuck => rw [e] at q; exact q
theorem pe_call0SD {CX : CXT} {k : Nat} {f : Addr} {fd : FuncData} {ps : List Str} {sp : Sp} {dvs : List V} {ds : List Value} {E : L2.St → XK} {x : Str} {p : Pos}
    (F : FnOk X.prog X.w X.K X.mg X.base CX k f fd ps sp) (hr : Room k X.A) (hg : Gl X x) (hm : X.mg x = some (.ref f)) (hk : PySem.W.keepIn X.K (.ref f) = true) (hb : Binds X.K fd ps ds) (hd : Vals dvs ds) (hx : ∀ σ, PassesAt CX X σ (E σ))
    (hdb : (x == ("__debug__" : Str)) = false) : PE X (.Call (.Name x p) [] [] pos) (tCallSD sp dvs E tNil) := by
  refine ⟨fun pins s σ H Q I h => ?_⟩
  refine wpAny_Call_Name_kw (ld_glob I hg hm ?_ hdb)
  exact PySem.W.callWith_K0 I.kIn hk (run_fnSD (us := []) F hr hb hd (hx σ) I .nil h)
theorem call_read {F : FT} {f : Nat} {fi : FInfo} {es : Es} {ms : M (List D)} {dvs : List V} {t : TA} (hl : ∀ ρ ds, ms ρ = .ok ds → ds.length = es.len) (hdl : dvs.length = fi.np - es.len) (hle : es.len ≤ fi.np) (hdd : DpAll w.K (fun _ => none) dvs (fi.fill es.len))
    (ht : ∀ σ H Q, tA w ms σ H Q → t σ H Q) {σ : L2.St} {H : Hp} {Q : VK} (h : tE w (fun ρ => (ms ρ).bind fun ds => F f (ds ++ fi.fill ds.length)) σ H Q) : tCallSD (spD w.K w.ct fi.np (F f)) dvs (fun σ cls d H' => w.W cls d σ H') t σ H Q := by
  obtain ⟨B, ρ, r, q⟩ := h
  refine ht _ _ _ (tAi (tA_bind r q) fun vs H' ⟨ds, B', e1, x, hds, q'⟩ => ?_)
  have e2 := hl _ _ e1
  rw [e2] at q'
  have l2 := hdd.length
  exact sp_of (by rw [List.length_append]; omega) x.bh (hds.append (hdd.same fun b o e => nomatch e)) q'
end
end CH

/-! CH 8: what is walked; comprehensions. -/
namespace CH
open PySem PySem.Spec PyProof.Rows L2

/-- the iterator walks the data ds -/
structure Wk (K : PySem.W.Frag) (J : L2.It) (ds : List D) (B : Hp) : Prop where
  len : ds.length ≤ sizeLine
  at_ : ∀ (i : Nat) (B1 H1 : Hp), Same B B1 → Same B1 H1 →
    (ds.length ≤ i → J.stop i H1) ∧ ∀ d, ds[i]? = some d → J.go i H1 ∧ ∀ x H', J.yld i H1 x H' → ∃ B', Ext B1 H1 B' H' ∧ Dp K B' x d
/-- behind an expression every list has a length within the line -/
def LenOk (K : PySem.W.Frag) (H : Hp) : Prop := ∀ a xs, SqL K H a xs → xs.length ≤ sizeLine
def LenOkT (K : PySem.W.Frag) (H : Hp) : Prop := ∀ a xs, SqT K H a xs → xs.length ≤ sizeLine
theorem PE.len {X : Cx} {e : Expr} {t : TE} (h : PE X e t) : PE X e (fun σ H Q => t σ H fun v H' => LenOk X.K H' → LenOkT X.K H' → Q v H') := ⟨fun pins s σ H Q I q =>
  thn (h.run pins s σ H _ I q) fun u s1 ⟨v, H', I1, r1, q1⟩ => ⟨v, H', I1, r1, q1 (fun a xs h => by obtain ⟨_, _, _, z⟩ := I1.list h; exact z) fun a xs h => by obtain ⟨_, _, _, z⟩ := I1.tuple h; exact z⟩⟩
def EvI (w : Wd) (B H : Hp) (σ : L2.St) (Q : L2.It → Hp → Prop) : R (List D) → Prop
  | .ok ds => ∀ J B' H', Ext B H B' H' → Wk w.K J ds B' → Q J H'
  | .exc c f => ∀ cls dx B' H', Ext B H B' H' → ExcAt w.K w.ct B' c f cls dx → w.W cls dx σ H'
  | .stuck => False
def tI (w : Wd) (m : M (List D)) : TI := fun σ H Q => ∃ B ρ, Rel w.K w.sx B H σ ρ ∧ EvI w B H σ Q (m ρ)
theorem PI.imp {X : Cx} {tg e : Expr} {t t' : TI} (h : PI X tg e t) (i : ∀ σ H Q, t' σ H Q → t σ H Q) : PI X tg e t' := ⟨fun pins s σ H Q I q => h.run pins s σ H Q I (i _ _ _ q)⟩
theorem EvI.mono {w : Wd} {B H B1 H1 : Hp} {σ : L2.St} {Q : L2.It → Hp → Prop} {r : R (List D)} (e : Ext B H B1 H1) (h : EvI w B H σ Q r) : EvI w B1 H1 σ Q r := by
  cases r with
  | ok d => exact fun v B' H' e' => h v B' H' (e.trans e')
  | exc c f => exact fun cls dx B' H' e' => h cls dx B' H' (e.trans e')
  | stuck => exact h
theorem tE_bindI {w : Wd} {B H : Hp} {σ : L2.St} {ρ : List Sl} {m : M D} {k : D → R (List D)} {Q : L2.It → Hp → Prop} (r : Rel w.K w.sx B H σ ρ) (h : EvI w B H σ Q ((m ρ).bind k)) :
    tE w m σ H (fun v H' => ∃ d B', m ρ = .ok d ∧ Ext B H B' H' ∧ Dp w.K B' v d ∧ EvI w B' H' σ Q (k d)) := by
  refine ⟨B, ρ, r, ?_⟩
  cases e : m ρ with
  | ok d =>
    rw [e] at h
    exact fun v B' H' x hd => ⟨d, B', rfl, x, hd, EvI.mono x h⟩
  | exc c f => rw [e] at h; exact h
  | stuck => rw [e] at h; exact h
theorem tA_bindI {w : Wd} {B H : Hp} {σ : L2.St} {ρ : List Sl} {m : M (List D)} {k : List D → R (List D)} {Q : L2.It → Hp → Prop} (r : Rel w.K w.sx B H σ ρ) (h : EvI w B H σ Q ((m ρ).bind k)) :
    tA w m σ H (fun v H' => ∃ d B', m ρ = .ok d ∧ Ext B H B' H' ∧ DpAll w.K B' v d ∧ EvI w B' H' σ Q (k d)) := by
  refine ⟨B, ρ, r, ?_⟩
  cases e : m ρ with
  | ok d =>
    rw [e] at h
    exact fun v B' H' x hd => ⟨d, B', rfl, x, hd, EvI.mono x h⟩
  | exc c f => rw [e] at h; exact h
  | stuck => rw [e] at h; exact h
theorem evI_of {w : Wd} {B H : Hp} {σ : L2.St} {Q : L2.It → Hp → Prop} {o : Option (List D)} (h : EvI w B H σ Q (R.of o)) : ∃ z, o = some z ∧ ∀ J B' H', Ext B H B' H' → Wk w.K J z B' → Q J H' := by
  cases o with
  | none => exact h.elim
  | some z => exact ⟨z, rfl, h⟩

/-! ### the walks -/
section
variable {K : PySem.W.Frag} {B : Hp}
theorem wk_list {a : Addr} {xs : List V} {ds : List D} (h : SqL K B a xs) (r : DpAll K B xs ds) (z : xs.length ≤ sizeLine) : Wk K (Itl K a) ds B := ⟨by rw [← r.length]; exact z, fun i B1 H1 s1 s2 =>
  ⟨fun hl => ⟨xs, (s1.trans s2).seq h, by rw [r.length]; exact hl⟩, fun d hd => by
    obtain ⟨v, hv, hp⟩ := r.get hd
    refine ⟨⟨xs, v, (s1.trans s2).seq h, hv⟩, fun x H' y => ?_⟩
    obtain ⟨rfl, hy⟩ := y
    have e := hy xs ((s1.trans s2).seq h)
    rw [hv] at e
    cases e
    exact ⟨B1, Ext.refl s2, hp.same s1⟩⟩⟩
theorem wk_tup {a : Addr} {xs : List V} {ds : List D} (h : SqT K B a xs) (r : DpAll K B xs ds) (z : xs.length ≤ sizeLine) : Wk K (Itt K a) ds B := ⟨by rw [← r.length]; exact z, fun i B1 H1 s1 s2 =>
  ⟨fun hl => ⟨xs, (s1.trans s2).seqT h, by rw [r.length]; exact hl⟩, fun d hd => by
    obtain ⟨v, hv, hp⟩ := r.get hd
    refine ⟨⟨xs, v, (s1.trans s2).seqT h, hv⟩, fun x H' y => ?_⟩
    obtain ⟨rfl, hy⟩ := y
    have e := hy xs ((s1.trans s2).seqT h)
    rw [hv] at e
    cases e
    exact ⟨B1, Ext.refl s2, hp.same s1⟩⟩⟩
theorem wk_str (x : Str) (z : x.length ≤ lim) : Wk K (Its x) (x.cps.toList.map fun c => .str ⟨#[c]⟩) B := by
  refine ⟨by rw [List.length_map, Array.length_toList]; have := lim_line; exact Nat.le_trans z (by omega), fun i B1 H1 s1 s2 => ?_⟩
  refine ⟨fun hl => ?_, fun d hd => ?_⟩
  · rw [List.length_map, Array.length_toList] at hl
    exact hl
  · rw [List.getElem?_map] at hd
    cases e : x.cps.toList[i]? with
    | none => rw [e] at hd; cases hd
    | some c =>
      rw [e] at hd
      cases hd
      have e2 : x.cps[i]? = some c := by rw [← Array.getElem?_toList]; exact e
      refine ⟨(Array.getElem?_eq_some_iff.mp e2).1, fun y H' h => ?_⟩
      obtain ⟨rfl, c', e3, rfl⟩ := h
      rw [e2] at e3
      cases e3
      exact ⟨B1, Ext.refl s2, .str _⟩
theorem rng_get {lo : Int} {n i : Nat} {d : D} (h : ((List.range n).map fun (i : Nat) => PyData.int (lo + (i : Int)))[i]? = some d) : i < n ∧ d = .int (lo + (i : Int)) := by
  rw [List.getElem?_map] at h
  by_cases hi : i < n
  · rw [List.getElem?_range hi] at h
    cases h
    exact ⟨hi, rfl⟩
  · rw [List.getElem?_eq_none (by rw [List.length_range]; omega)] at h
    cases h
theorem wk_rng (lo : Int) (n : Nat) (z : n ≤ sizeLine) : Wk K (Itr lo n) ((List.range n).map fun (i : Nat) => PyData.int (lo + (i : Int))) B := by
  refine ⟨by rw [List.length_map, List.length_range]; exact z, fun i B1 H1 s1 s2 => ?_⟩
  refine ⟨fun hl => ?_, fun d hd => ?_⟩
  · rw [List.length_map, List.length_range] at hl
    exact hl
  · obtain ⟨hi, rfl⟩ := rng_get hd
    refine ⟨hi, fun y H' h => ?_⟩
    obtain ⟨rfl, rfl⟩ := h
    exact ⟨B1, Ext.refl s2, .int _⟩
theorem wk_rngc (lo : Int) (n : Nat) (z : n ≤ sizeLine) : Wk K (Itc lo (-1) n) ((List.range n).map fun (k : Nat) => PyData.int (lo - (k : Int))) B := by
  refine ⟨by rw [List.length_map, List.length_range]; exact z, fun i B1 H1 s1 s2 => ?_⟩
  refine ⟨fun hl => ?_, fun d hd => ?_⟩
  · rw [List.length_map, List.length_range] at hl
    exact hl
  · rw [List.getElem?_map] at hd
    by_cases hi : i < n
    · rw [List.getElem?_range hi] at hd
      cases hd
      refine ⟨hi, fun y H' h => ?_⟩
      obtain ⟨rfl, rfl⟩ := h
      have e : lo + (i : Int) * (-1) = lo - (i : Int) := by omega
      rw [e]
      exact ⟨B1, Ext.refl s2, .int _⟩
    · rw [List.getElem?_eq_none (by rw [List.length_range]; omega)] at hd
      cases hd
theorem enum_len : ∀ (n : Nat) (ds : List D), (enumFrom n ds).length = ds.length
  | _, [] => rfl
  | n, d :: r => congrArg Nat.succ (enum_len (n + 1) r)
theorem enum_get : ∀ {n i : Nat} {ds : List D} {d : D}, (enumFrom n ds)[i]? = some d → ∃ e, ds[i]? = some e ∧ d = .tuple [.int ((n + i : Nat) : Int), e]
  | _, _, [], _, h => by simp [enumFrom] at h
  | n, 0, e :: r, d, h => by
    have h' : some (PyData.tuple [.int n, e]) = some d := h
    cases h'
    exact ⟨e, rfl, rfl⟩
  | n, i + 1, e :: r, d, h => by
    have h' : (enumFrom (n + 1) r)[i]? = some d := h
    obtain ⟨e', h1, h2⟩ := enum_get h'
    refine ⟨e', h1, ?_⟩
    rw [h2]
    have e2 : n + 1 + i = n + (i + 1) := by omega
    rw [e2]
theorem wk_enum {a : Addr} {xs : List V} {ds : List D} (h : SqL K B a xs) (r : DpAll K B xs ds) (z : xs.length ≤ sizeLine) : Wk K (Ite K a) (enumFrom 0 ds) B := ⟨by rw [enum_len, ← r.length]; exact z, fun i B1 H1 s1 s2 =>
  ⟨fun hl => ⟨xs, (s1.trans s2).seq h, by rw [r.length, ← enum_len 0 ds]; exact hl⟩, fun d hd => by
    obtain ⟨e, he, rfl⟩ := enum_get hd
    obtain ⟨v, hv, hp⟩ := r.get he
    refine ⟨⟨xs, v, (s1.trans s2).seq h, hv⟩, fun x H' y => ?_⟩
    obtain ⟨T, x', rfl, nT, rfl, hy⟩ := y
    have e := hy xs ((s1.trans s2).seq h)
    rw [hv] at e
    cases e
    refine ⟨_, Ext.new s2 nT, ?_⟩
    rw [Nat.zero_add]
    exact Dp.tup_new (.cons (.int _) (.cons ((hp.same s1).same (upd_free (s2.free nT))) .nil))⟩⟩
theorem zip_get {d : D} : ∀ (ds es : List D) (i : Nat), (zipD ds es)[i]? = some d → ∃ a b, ds[i]? = some a ∧ es[i]? = some b ∧ d = .tuple [a, b]
  | [], _, _, h => by simp [zipD] at h
  | _ :: _, [], _, h => by simp [zipD] at h
  | a :: r, b :: s, 0, h => by
    have h' : some (PyData.tuple [a, b]) = some d := h
    cases h'
    exact ⟨a, b, rfl, rfl, rfl⟩
  | a :: r, b :: s, i + 1, h => by
    have h' : (zipD r s)[i]? = some d := h
    obtain ⟨x, y, h1, h2, h3⟩ := zip_get r s i h'
    exact ⟨x, y, h1, h2, h3⟩
theorem zip_len : ∀ (ds es : List D), (zipD ds es).length = min ds.length es.length
  | [], _ => by simp [zipD]
  | _ :: _, [] => by simp [zipD]
  | _ :: r, _ :: s => by
    show (zipD r s).length + 1 = min (r.length + 1) (s.length + 1)
    rw [zip_len r s]
    omega
theorem wk_zip {a b : Addr} {xs ys : List V} {ds es : List D} (h : SqL K B a xs) (r : DpAll K B xs ds) (h' : SqL K B b ys) (r' : DpAll K B ys es) (z : xs.length ≤ sizeLine) : Wk K (Itz K a b) (zipD ds es) B := ⟨by have := zip_len ds es; have := r.length; omega, fun i B1 H1 s1 s2 =>
  ⟨fun hl => ⟨xs, ys, (s1.trans s2).seq h, (s1.trans s2).seq h', by have := zip_len ds es; have := r.length; have := r'.length; omega⟩, fun d hd => by
    obtain ⟨e1, e2, h1, h2, rfl⟩ := zip_get _ _ _ hd
    obtain ⟨v, hv, hp⟩ := r.get h1
    obtain ⟨v', hv', hp'⟩ := r'.get h2
    refine ⟨⟨xs, ys, v, v', (s1.trans s2).seq h, (s1.trans s2).seq h', hv, hv'⟩, fun x H' y => ?_⟩
    obtain ⟨T, x', y', rfl, nT, rfl, hy, hy'⟩ := y
    have e := hy xs ((s1.trans s2).seq h)
    rw [hv] at e
    cases e
    have e' := hy' ys ((s1.trans s2).seq h')
    rw [hv'] at e'
    cases e'
    exact ⟨_, Ext.new s2 nT, Dp.tup_new (.cons ((hp.same s1).same (upd_free (s2.free nT))) (.cons ((hp'.same s1).same (upd_free (s2.free nT))) .nil))⟩⟩⟩
theorem wk_rev {a : Addr} {xs : List V} {ds : List D} (h : SqL K B a xs) (r : DpAll K B xs ds) (z : xs.length ≤ sizeLine) : Wk K (Itv K a xs.length) ds.reverse B := by
  have hl := r.length
  refine ⟨by rw [List.length_reverse]; omega, fun i B1 H1 s1 s2 => ?_⟩
  refine ⟨fun hn => ?_, fun d hd => ?_⟩
  · rw [List.length_reverse] at hn
    show xs.length ≤ i
    omega
  · obtain ⟨hi, _⟩ := List.getElem?_eq_some_iff.mp hd
    rw [List.length_reverse] at hi
    rw [List.getElem?_reverse hi] at hd
    obtain ⟨v, hv, hp⟩ := r.get hd
    rw [← hl] at hv
    refine ⟨⟨by omega, xs, v, (s1.trans s2).seq h, hv⟩, fun x H' y => ?_⟩
    obtain ⟨rfl, hy⟩ := y
    have e := hy xs ((s1.trans s2).seq h)
    rw [hv] at e
    cases e
    exact ⟨B1, Ext.refl s2, hp.same s1⟩
theorem wk_revT {a : Addr} {xs : List V} {ds : List D} (h : SqT K B a xs) (r : DpAll K B xs ds) (z : xs.length ≤ sizeLine) : Wk K (RT.ItvT K a xs.length) ds.reverse B := by
  have hl := r.length
  refine ⟨by rw [List.length_reverse]; omega, fun i B1 H1 s1 s2 => ?_⟩
  refine ⟨fun hn => ?_, fun d hd => ?_⟩
  · rw [List.length_reverse] at hn
    show xs.length ≤ i
    omega
  · obtain ⟨hi, _⟩ := List.getElem?_eq_some_iff.mp hd
    rw [List.length_reverse] at hi
    rw [List.getElem?_reverse hi] at hd
    obtain ⟨v, hv, hp⟩ := r.get hd
    rw [← hl] at hv
    refine ⟨⟨by omega, xs, v, (s1.trans s2).seqT h, hv⟩, fun x H' y => ?_⟩
    obtain ⟨rfl, hy⟩ := y
    have e := hy xs ((s1.trans s2).seqT h)
    rw [hv] at e
    cases e
    exact ⟨B1, Ext.refl s2, hp.same s1⟩
end

/-! ### the iterables -/
section
variable {X : Cx} {w : Wd} {tg e e2 : Expr} {es : List Expr} {ma mb : M D} {ms : M (List D)} {p pos : Pos}
/-- a list, a tuple, a text -/
theorem p_seq (hK : X.K = w.K) (he : PE X e (tE w ma)) : PI X tg e (tI w fun ρ => (ma ρ).bind fun d => R.of (itemsS d)) := by
  refine ⟨fun pins s σ H Q I ⟨B, ρ, r, q⟩ => ?_⟩
  refine thn (he.run pins s σ H _ I (tE_bindI r q)) fun v s1 ⟨y, H1, I1, r1, d, B', e1, x, hd, q'⟩ => ?_
  obtain ⟨z, ez, qz⟩ := evI_of q'
  cases hd with
  | lst h1 r2 =>
    cases ez
    cases r1
    have hq := x.bh.seq h1
    rw [← hK] at hq
    obtain ⟨its, rv, p, hz⟩ := I1.list hq
    refine wpAny_pyIter_list p.isList ?_
    refine ⟨s1.heap.objs.size, [s1.heap.objs.size], _, _, H1, rfl, I1.kept (t' := s1.toks) fun b o e => Heap.get?_push_of_some _ e, turn_list _ _, ⟨_, Heap.get?_push_size _ rfl, rfl, rfl⟩, fun b hb => ?_, qz _ _ _ (Ext.refl x.bh) (by rw [hK]; exact wk_list h1 r2 hz)⟩
    have e : b = s1.heap.objs.size := by simpa using hb
    subst e
    exact I1.fpOk (Nat.le_refl _) (I1.hok.fresh (Nat.le_refl _))
  | tup h1 r2 =>
    cases ez
    cases r1
    have hq := x.bh.seqT h1
    rw [← hK] at hq
    obtain ⟨its, rv, p, hz⟩ := I1.tuple hq
    refine wpAny_pyIter_tuple (show s1.heap.IsTuple _ its.toArray from p) ?_
    refine ⟨s1.heap.objs.size, [s1.heap.objs.size], _, _, H1, rfl, I1.kept (t' := s1.toks) fun b o e => Heap.get?_push_of_some _ e, turn_tuple _ _, ⟨_, Heap.get?_push_size _ rfl, rfl, rfl⟩, fun b hb => ?_, qz _ _ _ (Ext.refl x.bh) (by rw [hK]; exact wk_tup h1 r2 hz)⟩
    have e : b = s1.heap.objs.size := by simpa using hb
    subst e
    exact I1.fpOk (Nat.le_refl _) (I1.hok.fresh (Nat.le_refl _))
  | str z =>
    simp only [itemsS] at ez
    split at ez
    · rename_i hz
      cases ez
      obtain ⟨t, rfl⟩ := r1
      have q2 := qz _ _ _ (Ext.refl x.bh) (wk_str z hz)
      cases ha : z.cps.all (· < 128)
      · exact wpAny_pyIter_wide ha (pi_one (tk := s1.toks) I1 _ (turn_str _ z t "str_iterator" (.inr rfl)) ⟨_, Heap.get?_push_size _ rfl, rfl, rfl⟩ q2)
      · exact wpAny_pyIter_ascii ha (pi_one (tk := s1.toks) I1 _ (turn_str _ z t "str_ascii_iterator" (.inl rfl)) ⟨_, Heap.get?_push_size _ rfl, rfl, rfl⟩ q2)
    · cases ez
  | _ => cases ez
theorem int_of {K : PySem.W.Frag} {B : Hp} {v : V} {i : Int} (h : Dp K B v (.int i)) : v = .int i := by cases h; rfl
theorem p_enum (hK : X.K = w.K) {elts : List Expr} {kk : Nat} {tpos : Pos} (hg : Gl X "enumerate") (hm : X.mg "enumerate" = none) (he : PE X e (tE w ma)) (hs : starEach [e] X.env = [(false, eval e X.env)]) :
    PI X (.Tuple elts kk tpos) (.Call (.Name "enumerate" p) [e] [] pos) (tI w fun ρ => (ma ρ).bind fun d => R.of (enumS d)) := by
  refine PI.imp (pi_enum hg hm (pa_cons (PE.len he) pa_nil hs) hs) fun σ H Q ⟨B, ρ, r, q⟩ => ?_
  refine tEi (tE_bindI r q) fun v H' ⟨d, B', e1, x, hd, q'⟩ ok _ => ?_
  obtain ⟨z, ez, qz⟩ := evI_of q'
  cases hd with
  | lst h1 r2 =>
    cases ez
    have z := ok _ _ (by rw [hK]; exact x.bh.seq h1)
    rw [hK]
    exact ⟨_, _, rfl, x.bh.seq h1, qz _ _ _ (Ext.refl x.bh) (wk_enum h1 r2 z)⟩
  | _ => cases ez
theorem p_zip (hK : X.K = w.K) {elts : List Expr} {kk : Nat} {tpos : Pos} (hg : Gl X "zip") (hm : X.mg "zip" = none) (he : PE X e (tE w ma)) (he2 : PE X e2 (tE w mb)) (hs : starEach [e, e2] X.env = (false, eval e X.env) :: starEach [e2] X.env) (hs2 : starEach [e2] X.env = [(false, eval e2 X.env)]) :
    PI X (.Tuple elts kk tpos) (.Call (.Name "zip" p) [e, e2] [] pos) (tI w fun ρ => (ma ρ).bind fun d => (mb ρ).bind fun e => R.of (zipS d e)) := by
  refine PI.imp (pi_zip hg hm (pa_cons (PE.len he) (pa_cons he2 pa_nil hs2) hs) hs (by rw [hs2]; rfl)) fun σ H Q ⟨B, ρ, r, q⟩ => ?_
  refine tEi (tE_bindI r q) fun v H' ⟨d, B', e1, x, hd, q'⟩ ok _ => ?_
  refine tEi (tE_bindI (r.ext x) q') fun v2 H2 ⟨d2, B2, e2, x2, hd2, q2⟩ => ?_
  obtain ⟨z, ez, qz⟩ := evI_of q2
  cases hd with
  | lst h1 r1 =>
    cases hd2 with
    | lst h2 r2 =>
      cases ez
      have z := ok _ _ (by rw [hK]; exact x.bh.seq h1)
      rw [hK]
      exact ⟨_, _, _, _, rfl, (x2.bb.trans x2.bh).seq h1, x2.bh.seq h2, qz _ _ _ (Ext.refl x2.bh) (wk_zip (x2.bb.seq h1) (r1.same x2.bb) h2 r2 z)⟩
    | _ => cases ez
  | _ => cases hd2 <;> cases ez
theorem p_revd (hK : X.K = w.K) (hg : Gl X "reversed") (hm : X.mg "reversed" = none) (he : PE X e (tE w ma)) (hs : starEach [e] X.env = (false, eval e X.env) :: starEach [] X.env) :
    PI X tg (.Call (.Name "reversed" p) [e] [] pos) (tI w fun ρ => (ma ρ).bind fun d => R.of (revS d)) := by
  refine PI.imp (RT.pi_revA hg hm (PE.len he) hs) fun σ H Q ⟨B, ρ, r, q⟩ => ?_
  refine tEi (tE_bindI r q) fun v H' ⟨d, B', e1, x, hd, q'⟩ ok okT => ?_
  obtain ⟨z, ez, qz⟩ := evI_of q'
  cases hd with
  | lst h1 r2 =>
    cases ez
    have z := ok _ _ (by rw [hK]; exact x.bh.seq h1)
    rw [hK]
    exact ⟨_, _, rfl, .inl ⟨x.bh.seq h1, qz _ _ _ (Ext.refl x.bh) (wk_rev h1 r2 z)⟩⟩
  | tup h1 r2 =>
    cases ez
    have z := okT _ _ (by rw [hK]; exact x.bh.seqT h1)
    rw [hK]
    exact ⟨_, _, rfl, .inr ⟨x.bh.seqT h1, qz _ _ _ (Ext.refl x.bh) (wk_revT h1 r2 z)⟩⟩
  | _ => cases ez
theorem rsm_len {i j : Int} (h : rsm i = true) (h' : rsm j = true) : (j - i).toNat ≤ sizeLine := by
  have h := smI_iff.mp h
  have h' := smI_iff.mp h'
  have := sizeLine_eq
  omega
theorem rsm_of {j : Int} (h : rsm j = true) : -(2 ^ 62) ≤ j ∧ j < 2 ^ 62 := by
  have h := smI_iff.mp h
  omega
theorem rngS1 {d : D} {z : List D} (h : rngS [d] = some z) : ∃ j, d = .int j ∧ rsm j = true ∧ z = rngD 0 j := by
  cases d with
  | int j =>
    simp only [rngS] at h
    by_cases hj : rsm j = true
    · rw [if_pos hj] at h
      exact ⟨j, rfl, hj, (Option.some.inj h).symm⟩
    · rw [if_neg hj] at h
      cases h
  | _ => cases h
theorem rngS2 {d e : D} {z : List D} (h : rngS [d, e] = some z) : ∃ i j, d = .int i ∧ e = .int j ∧ rsm i = true ∧ rsm j = true ∧ z = rngD i j := by
  cases d with
  | int i =>
    cases e with
    | int j =>
      simp only [rngS] at h
      by_cases hj : (rsm i && rsm j) = true
      · rw [if_pos hj] at h
        rw [Bool.and_eq_true] at hj
        exact ⟨i, j, rfl, rfl, hj.1, hj.2, (Option.some.inj h).symm⟩
      · rw [if_neg hj] at h
        cases h
    | _ => cases h
  | _ => cases h
theorem rngS3 {d e f : D} {z : List D} (h : rngS [d, e, f] = some z) : ∃ i j, d = .int i ∧ e = .int j ∧ f = .int (-1) ∧ rsm i = true ∧ rsm j = true ∧ z = (List.range (i - j).toNat).map fun (k : Nat) => PyData.int (i - (k : Int)) := by
  cases d with
  | int i =>
    cases e with
    | int j =>
      cases f with
      | int c =>
        simp only [rngS] at h
        by_cases hj : (rsm i && rsm j && decide (c = -1)) = true
        · rw [if_pos hj] at h
          rw [Bool.and_eq_true, Bool.and_eq_true, decide_eq_true_eq] at hj
          obtain ⟨⟨h1, h2⟩, rfl⟩ := hj
          exact ⟨i, j, rfl, rfl, rfl, h1, h2, (Option.some.inj h).symm⟩
        · rw [if_neg hj] at h
          cases h
      | _ => cases h
    | _ => cases h
  | _ => cases h
variable {b c : Expr}
theorem p_rng1 (hg : Gl X "range") (hm : X.mg "range" = none) (ha : PA X [e] (tA w ms)) (h1 : ∀ ρ ds, ms ρ = .ok ds → ds.length = 1) (hs : starEach [e] X.env = [(false, eval e X.env)]) :
    PI X tg (.Call (.Name "range" p) [e] [] pos) (tI w fun ρ => (ms ρ).bind fun ds => R.of (rngS ds)) := by
  refine PI.imp (pi_range1 hg hm ha hs) fun σ H Q ⟨B, ρ, r, q⟩ => ?_
  refine tAi (tA_bindI r q) fun vs H' ⟨ds, B', e1, x, hds, q'⟩ => ?_
  obtain ⟨z, ez, qz⟩ := evI_of q'
  have hl := h1 _ _ e1
  match ds, hl, hds, ez with
  | [d], _, hds, ez =>
    obtain ⟨j, rfl, hj, rfl⟩ := rngS1 ez
    have hb := rsm_of hj
    cases hds with
    | cons a b =>
      cases b
      cases a
      have q2 := qz _ _ _ (Ext.refl x.bh) (wk_rng 0 (j - 0).toNat (rsm_len (by decide) hj))
      rw [Int.sub_zero] at q2
      exact ⟨j, rfl, hb.1, hb.2, q2⟩
theorem p_rng2 (hg : Gl X "range") (hm : X.mg "range" = none) (ha : PA X [e, b] (tA w ms)) (h1 : ∀ ρ ds, ms ρ = .ok ds → ds.length = 2) (hs : starEach [e, b] X.env = [(false, eval e X.env), (false, eval b X.env)]) (hs2 : starEach [b] X.env = [(false, eval b X.env)]) :
    PI X tg (.Call (.Name "range" p) [e, b] [] pos) (tI w fun ρ => (ms ρ).bind fun ds => R.of (rngS ds)) := by
  refine PI.imp (pi_range2 hg hm ha hs hs2) fun σ H Q ⟨B, ρ, r, q⟩ => ?_
  refine tAi (tA_bindI r q) fun vs H' ⟨ds, B', e1, x, hds, q'⟩ => ?_
  obtain ⟨z, ez, qz⟩ := evI_of q'
  have hl := h1 _ _ e1
  match ds, hl, hds, ez with
  | [d, d'], _, hds, ez =>
    obtain ⟨i, j, rfl, rfl, hi, hj, rfl⟩ := rngS2 ez
    have hb := rsm_of hi
    have hb' := rsm_of hj
    cases hds with
    | cons a b =>
      cases b with
      | cons b c =>
        cases c
        cases a
        cases b
        exact ⟨i, j, rfl, ⟨hb.1, hb.2, hb'.1, hb'.2⟩, qz _ _ _ (Ext.refl x.bh) (wk_rng i (j - i).toNat (rsm_len hi hj))⟩
theorem p_rng3 (hg : Gl X "range") (hm : X.mg "range" = none) (ha : PA X [e, b, c] (tA w ms)) (h1 : ∀ ρ ds, ms ρ = .ok ds → ds.length = 3) (hs : starEach [e, b, c] X.env = (false, eval e X.env) :: starEach [b, c] X.env) (hs2 : (backTo pos (starEach [b, c] X.env)).any (·.1) = false) :
    PI X tg (.Call (.Name "range" p) [e, b, c] [] pos) (tI w fun ρ => (ms ρ).bind fun ds => R.of (rngS ds)) := by
  refine PI.imp (pi_range3 hg hm ha hs hs2) fun σ H Q ⟨B, ρ, r, q⟩ => ?_
  refine tAi (tA_bindI r q) fun vs H' ⟨ds, B', e1, x, hds, q'⟩ => ?_
  obtain ⟨z, ez, qz⟩ := evI_of q'
  have hl := h1 _ _ e1
  match ds, hl, hds, ez with
  | [d, d', d''], _, hds, ez =>
    obtain ⟨i, j, rfl, rfl, rfl, hi, hj, rfl⟩ := rngS3 ez
    have hb := rsm_of hi
    have hb' := rsm_of hj
    cases hds with
    | cons a b =>
      cases b with
      | cons b c =>
        cases c with
        | cons c d =>
          cases d
          cases a
          cases b
          cases c
          exact ⟨i, j, -1, (i - j).toNat, rfl, RgC.neg hb.1 hb.2 hb'.1 hb'.2, qz _ _ _ (Ext.refl x.bh) (wk_rngc i (i - j).toNat (rsm_len hj hi))⟩
end
end CH

/-! CH 9: targets; comprehensions. -/
namespace CH
open PySem PySem.Spec PyProof.Rows L2

section
variable {K : PySem.W.Frag} {sx : Option (Addr × Nat × Option Addr × Str)} {B H : Hp} {σ : L2.St} {ρ : List Sl}
theorem get_set {α : Type} {l : List α} {i j : Nat} {x y : α} (h : (l.set i x)[j]? = some y) : (j = i ∧ y = x) ∨ (j ≠ i ∧ l[j]? = some y) := by
  by_cases e : j = i
  · subst e
    by_cases hl : j < l.length
    · rw [List.getElem?_set_self hl] at h; cases h; exact .inl ⟨rfl, rfl⟩
    · rw [List.getElem?_eq_none (by rw [List.length_set]; omega)] at h; cases h
  · rw [List.getElem?_set_ne (Ne.symm e)] at h
    exact .inr ⟨e, h⟩
/-- a slot is written -/
theorem Rel.put (r : Rel K sx B H σ ρ) (i : Nat) (x : Option V) (s : Sl) (hd : ∀ d, s = .dat d → ∃ v, x = some v ∧ Dp K B v d) (ho : ∀ ds, s ≠ .own ds) (he : ∀ c f, s ≠ .exc c f) : Rel K sx B H (σ.set i x) (ρ.set i s) := by
  have hlen := r.len
  refine ⟨by rw [List.length_set, List.length_set]; exact hlen, r.sub, fun j d h => ?_, fun j ds h => ?_, fun j k ds es a h1 h2 h3 h4 => ?_, fun j c f h => ?_⟩
  · rcases get_set h with ⟨rfl, e⟩ | ⟨n, h⟩
    · obtain ⟨v, rfl, hp⟩ := hd d e.symm
      refine ⟨v, ?_, hp⟩
      have hl := (List.getElem?_eq_some_iff.mp h).1
      rw [List.length_set] at hl
      rw [List.getElem?_set_self (by omega)]
    · obtain ⟨v, h1, h2⟩ := r.dat j d h
      exact ⟨v, by rw [List.getElem?_set_ne (Ne.symm n)]; exact h1, h2⟩
  · rcases get_set h with ⟨rfl, e⟩ | ⟨n, h⟩
    · exact absurd e.symm (ho ds)
    · obtain ⟨a, xs, h1, h2⟩ := r.own j ds h
      exact ⟨a, xs, by rw [List.getElem?_set_ne (Ne.symm n)]; exact h1, h2⟩
  · rcases get_set h1 with ⟨_, e⟩ | ⟨n1, h1⟩
    · exact absurd e.symm (ho ds)
    · rcases get_set h2 with ⟨_, e⟩ | ⟨n2, h2⟩
      · exact absurd e.symm (ho es)
      · rw [List.getElem?_set_ne (Ne.symm n1)] at h3
        rw [List.getElem?_set_ne (Ne.symm n2)] at h4
        exact r.sep j k ds es a h1 h2 h3 h4
  · rcases get_set h with ⟨rfl, e⟩ | ⟨n, h⟩
    · exact absurd e.symm (he c f)
    · obtain ⟨a, dx, nm, h1, h2, h3⟩ := r.exc j c f h
      exact ⟨a, dx, nm, h1, by rw [List.getElem?_set_ne (Ne.symm n)]; exact h2, h3⟩
theorem Rel.setD (r : Rel K sx B H σ ρ) (i : Nat) {v : V} {d : D} (h : Dp K B v d) : Rel K sx B H (σ.set i (some v)) (setS ρ i d) :=
  r.put i (some v) (.dat d) (fun d' e => by cases e; exact ⟨v, rfl, h⟩) (fun _ e => by cases e) fun _ _ e => by cases e
theorem Rel.wipe (r : Rel K sx B H σ ρ) : ∀ vs : List Nat, Rel K sx B H (wipe σ vs) (wipeS ρ vs)
  | [] => r
  | v :: vs => (Rel.wipe r vs).put v none .no (fun _ e => by cases e) (fun _ e => by cases e) fun _ _ e => by cases e
end
theorem wipe_get (σ : L2.St) (i : Nat) : ∀ vs : List Nat, i ∈ vs → (wipe σ vs)[i]? = if i < σ.length then some none else none
  | [], h => by cases h
  | v :: vs, h => by
    unfold wipe
    by_cases e : v = i
    · subst e
      by_cases hl : v < σ.length
      · rw [List.getElem?_set_self (by rw [wipe_length]; exact hl), if_pos hl]
      · rw [List.getElem?_eq_none (by rw [List.length_set, wipe_length]; omega), if_neg hl]
    · rw [List.getElem?_set_ne e]
      exact wipe_get σ i vs ((List.mem_cons.mp h).elim (fun z => absurd z.symm e) id)
theorem wipe_set {σ : L2.St} {i : Nat} {x : Option V} {vs : List Nat} (h : i ∈ vs) : wipe (σ.set i x) vs = wipe σ vs := by
  apply List.ext_getElem?
  intro j
  by_cases hj : j ∈ vs
  · rw [wipe_get _ _ _ hj, wipe_get _ _ _ hj, List.length_set]
  · rw [wipe_out hj, wipe_out hj, List.getElem?_set_ne (fun e => hj (by rw [← e]; exact h))]

/-- a target takes a datum -/
def tG (w : Wd) (tg : Tg) : TG := fun v σ H Q => ∃ B ρ d ρ', Rel w.K w.sx B H σ ρ ∧ Dp w.K B v d ∧ tg.set d ρ = some ρ' ∧
  ∀ σ', Rel w.K w.sx B H σ' ρ' → (∀ vs : List Nat, (∀ i ∈ tg.ixs, i ∈ vs) → wipe σ' vs = wipe σ vs) → Q σ' H
section
variable {I : Info} {sc : Scope} {N : List Str} {k : Nat} {F : FT} {w : Wd} {X : Cx}
theorem p_tg (C : CtxOk I sc N k F w X) (hc : X.calm = true) {tg : Tg} (h : tg.wf N sc = true) : PG X tg.py (tG w tg) := by
  have hK := C.hK
  have hN : X.N.Nodup := by rw [C.hN]; exact C.nd
  cases tg with
  | one i x p =>
    simp only [Tg.wf, Bool.and_eq_true, decide_eq_true_eq] at h
    have g := pg_name (X := X) (pos := p) hN (by rw [C.hN]; exact h.1) (C.loc h.2) (C.lfn h.2)
    refine ⟨fun pins s σ H v u Q I r hw => g.run pins s σ H v u Q I r ?_⟩
    obtain ⟨B, ρ, d, ρ', hr, hd, e, q⟩ := hw
    cases e
    exact q _ (hr.setD i hd) fun vs hv => wipe_set (hv i (List.mem_singleton.mpr rfl))
  | two i x p j y q k r =>
    simp only [Tg.wf, Bool.and_eq_true, decide_eq_true_eq] at h
    obtain ⟨⟨⟨h1, h2⟩, h3⟩, h4⟩ := h
    have g := pg_tup (X := X) (k := k) (pos := r) hc (pgs_cons (pg_name (pos := p) hN (by rw [C.hN]; exact h1) (C.loc h2) (C.lfn h2)) (pgs_cons (pg_name (pos := q) hN (by rw [C.hN]; exact h3) (C.loc h4) (C.lfn h4)) pgs_nil)) (n := 2) (by rfl) (by rfl)
    refine ⟨fun pins s σ H v u Q I ru hw => g.run pins s σ H v u Q I ru ?_⟩
    obtain ⟨B, ρ, d, ρ', hr, hd, e, q⟩ := hw
    cases hd with
    | @tup a xs ds hq hx =>
      match ds, hx, e with
      | [d1, d2], hx, e =>
        cases hx with
        | cons hx1 hx2 =>
          cases hx2 with
          | cons hx2 hx3 =>
            cases hx3
            cases e
            refine ⟨a, _, rfl, hK ▸ hr.sub.seqT hq, rfl, _, _, rfl, _, _, rfl, rfl, ?_⟩
            exact q _ ((hr.setD i hx1).setD j hx2) fun vs hv => by
              rw [wipe_set (hv j (by simp [Tg.ixs])), wipe_set (hv i (by simp [Tg.ixs]))]
      | [], _, e => cases e
      | [_], _, e => cases e
      | _ :: _ :: _ :: _, _, e => cases e
    | _ => cases e
end

theorem nx_ok {α : Type} {r : R α} {a : α} (h : r.nx = .ok a) : r = .ok a := by cases r <;> cases h; rfl
theorem compL_exc {bd : D → Option (List Sl)} {test : M Bool} {elt : M D} {c : Nat} {f : Option D} (ht : ∀ ρ, test ρ ≠ .exc c f) (he : ∀ ρ, elt ρ ≠ .exc c f) : ∀ ds, compL bd test elt ds ≠ .exc c f
  | [] => fun h => by cases h
  | d :: ds => fun h => by
    have ih := compL_exc (bd := bd) ht he ds
    rw [compL, of_bind] at h
    cases e1 : bd d with
    | none => rw [e1] at h; cases h
    | some ρ =>
      rw [e1] at h
      have h : ((test ρ).bind fun b => if b = true then (elt ρ).bind fun y => (compL bd test elt ds).bind fun ys => .ok (y :: ys) else compL bd test elt ds) = .exc c f := h
      cases e2 : test ρ with
      | stuck => rw [e2] at h; cases h
      | exc c' f' => rw [e2] at h; cases h; exact ht ρ e2
      | ok b =>
        rw [e2] at h
        cases b with
        | false => exact ih h
        | true =>
          have h : ((elt ρ).bind fun y => (compL bd test elt ds).bind fun ys => .ok (y :: ys)) = .exc c f := h
          cases e3 : elt ρ with
          | stuck => rw [e3] at h; cases h
          | exc c' f' => rw [e3] at h; cases h; exact he ρ e3
          | ok y =>
            rw [e3] at h
            have h : ((compL bd test elt ds).bind fun ys => R.ok (y :: ys)) = .exc c f := h
            cases e4 : compL bd test elt ds with
            | stuck => rw [e4] at h; cases h
            | ok ys => rw [e4] at h; cases h
            | exc c' f' => rw [e4] at h; cases h; exact ih e4
theorem nx_exc {α : Type} {r : R α} {c : Nat} {f : Option D} : r.nx ≠ .exc c f := by cases r <;> exact fun h => by cases h
/-- the reading of a comprehension -/
theorem comp_read {w : Wd} {tg : Tg} {mi : M (List D)} {mt : M Bool} {me : M D} {vs : List Nat} {σ : L2.St} {H : Hp} {Q : VK} (hix : ∀ i ∈ tg.ixs, i ∈ vs)
    (h : tE w (fun ρ => (mi ρ).bind fun ds => (compL (fun d => tg.set d (wipeS ρ vs)) (fun ρ => (mt ρ).nx) (fun ρ => (me ρ).nx) ds).bind fun ys => .ok (.list ys)) σ H Q) :
    tLc (tI w mi) (tG w.cold tg) (tT w.cold mt) (tE w.cold me) vs σ H Q := by
  obtain ⟨B, ρ, r, q⟩ := h
  dsimp only at q
  refine ⟨B, ρ, r, ?_⟩
  cases e1 : mi ρ with
  | stuck => rw [e1] at q; exact q
  | exc c f => rw [e1] at q; exact q
  | ok ds =>
    rw [e1] at q
    have q : Ev w B H σ Q ((compL (fun d => tg.set d (wipeS ρ vs)) (fun ρ => (mt ρ).nx) (fun ρ => (me ρ).nx) ds).bind fun ys => .ok (.list ys)) := q
    cases e2 : compL (fun d => tg.set d (wipeS ρ vs)) (fun ρ => (mt ρ).nx) (fun ρ => (me ρ).nx) ds with
    | stuck => rw [e2] at q; exact q.elim
    | exc c f => exact absurd e2 (compL_exc (fun _ => nx_exc) (fun _ => nx_exc) ds)
    | ok ys =>
      rw [e2] at q
      intro J B' H' x wk A nA
      have nBA : B' A = none := x.bh.free nA
      refine ⟨fun i m Hi => m = ds.length - i ∧ i ≤ ds.length ∧ ∃ Bi acc da rest, Ext B' H' Bi Hi ∧ Bi A = none ∧ Hi A = some (.lst acc) ∧ DpAll w.K Bi acc da ∧ acc.length ≤ i ∧
        compL (fun d => tg.set d (wipeS ρ vs)) (fun ρ => (mt ρ).nx) (fun ρ => (me ρ).nx) (ds.drop i) = .ok rest ∧ da ++ rest = ys, ?_, ?_⟩
      · refine ⟨ds.length, by simp, Nat.zero_le _, B', [], [], ys, ⟨Same.refl _, upd_free nA, x.bh.trans (upd_free nA), fun a _ n => n⟩, nBA, upd_same, .nil, Nat.le_refl _, ?_, rfl⟩
        rw [List.drop_zero]; exact e2
      · rintro i m Hi ⟨rfl, hi, Bi, acc, da, rest, xi, nA', eA, hacc, hal, ec, ey⟩
        have wki := wk.at_ i Bi Hi xi.bb xi.bh
        by_cases hlt : i < ds.length
        · obtain ⟨d, hd⟩ : ∃ d, ds[i]? = some d := ⟨ds[i], List.getElem?_eq_getElem hlt⟩
          obtain ⟨go, yl⟩ := wki.2 d hd
          refine .inr ⟨go, fun Hn => ∃ Bi acc da rest, Ext B' H' Bi Hn ∧ Bi A = none ∧ Hn A = some (.lst acc) ∧ DpAll w.K Bi acc da ∧ acc.length ≤ i + 1 ∧
            compL (fun d => tg.set d (wipeS ρ vs)) (fun ρ => (mt ρ).nx) (fun ρ => (me ρ).nx) (ds.drop (i + 1)) = .ok rest ∧ da ++ rest = ys, fun Hn hn => ⟨ds.length - (i + 1), by omega, rfl, hlt, hn⟩, fun xv H2 hy => ?_⟩
          obtain ⟨B2, x2, hd2⟩ := yl xv H2 hy
          have hA2 : H2 A = some (.lst acc) := x2.hh _ _ eA
          have nA2 : B2 A = none := x2.nb A (by rw [eA]; exact fun z => nomatch z) nA'
          have r2 : Rel w.K w.sx B2 H2 (wipe σ vs) (wipeS ρ vs) := (((r.ext x).ext xi).ext x2).wipe vs
          have edrop : ds.drop i = d :: ds.drop (i + 1) := by
            have e1 := List.drop_eq_getElem_cons hlt
            rw [List.getElem?_eq_getElem hlt] at hd
            cases hd
            exact e1
          rw [edrop, compL, of_bind] at ec
          cases eb : tg.set d (wipeS ρ vs) with
          | none => rw [eb] at ec; cases ec
          | some ρ' =>
            rw [eb] at ec
            have ec : ((mt ρ').nx.bind fun b => if b = true then (me ρ').nx.bind fun y => (compL (fun d => tg.set d (wipeS ρ vs)) (fun ρ => (mt ρ).nx) (fun ρ => (me ρ).nx) (ds.drop (i + 1))).bind fun ys => .ok (y :: ys)
              else compL (fun d => tg.set d (wipeS ρ vs)) (fun ρ => (mt ρ).nx) (fun ρ => (me ρ).nx) (ds.drop (i + 1))) = .ok rest := ec
            refine ⟨B2, wipeS ρ vs, d, ρ', r2, hd2, eb, fun σ' r' hw => ⟨?_, B2, ρ', r', ?_⟩⟩
            · rw [hw vs hix]
              apply List.ext_getElem?
              intro j
              by_cases hj : j ∈ vs
              · rw [wipe_get _ _ _ hj, wipe_length, wipe_get _ _ _ hj]
              · rw [wipe_out hj]
            · cases et : mt ρ' with
              | stuck => rw [et] at ec; cases ec
              | exc c f => rw [et] at ec; cases ec
              | ok b =>
                rw [et] at ec
                intro B3 H3 x3
                have eA3 : H3 A = some (.lst acc) := x3.hh _ _ hA2
                have nA3 : B3 A = none := x3.nb A (by rw [hA2]; exact fun z => nomatch z) nA2
                have x03 := (xi.trans x2).trans x3
                cases b with
                | false =>
                  rw [if_neg Bool.false_ne_true]
                  exact ⟨B3, acc, da, rest, x03, nA3, eA3, hacc.same (x2.bb.trans x3.bb), by omega, ec, ey⟩
                | true =>
                  rw [if_pos rfl]
                  have ec : ((me ρ').nx.bind fun y => (compL (fun d => tg.set d (wipeS ρ vs)) (fun ρ => (mt ρ).nx) (fun ρ => (me ρ).nx) (ds.drop (i + 1))).bind fun ys => .ok (y :: ys)) = .ok rest := ec
                  refine ⟨B3, ρ', r'.ext x3, ?_⟩
                  cases ee : me ρ' with
                  | stuck => rw [ee] at ec; cases ec
                  | exc c f => rw [ee] at ec; cases ec
                  | ok y =>
                    rw [ee] at ec
                    have ec : ((compL (fun d => tg.set d (wipeS ρ vs)) (fun ρ => (mt ρ).nx) (fun ρ => (me ρ).nx) (ds.drop (i + 1))).bind fun ys => R.ok (y :: ys)) = .ok rest := ec
                    cases er : compL (fun d => tg.set d (wipeS ρ vs)) (fun ρ => (mt ρ).nx) (fun ρ => (me ρ).nx) (ds.drop (i + 1)) with
                    | stuck => rw [er] at ec; cases ec
                    | exc c f => rw [er] at ec; cases ec
                    | ok rest' =>
                      rw [er] at ec
                      cases ec
                      intro yv B4 H4 x4 hy4
                      have eA4 : H4 A = some (.lst acc) := x4.hh _ _ eA3
                      have nA4 : B4 A = none := x4.nb A (by rw [eA3]; exact fun z => nomatch z) nA3
                      have hln := wk.len
                      refine ⟨acc, eA4, by omega, B4, acc ++ [yv], da ++ [y], rest', ?_, nA4, upd_same, (hacc.same ((x2.bb.trans x3.bb).trans x4.bb)).append (.cons hy4 .nil), by rw [List.length_append, List.length_singleton]; omega, rfl, by rw [List.append_assoc]; exact ey⟩
                      have x04 := x03.trans x4
                      refine ⟨x04.bb, fun b o e => ?_, fun b o e => ?_, x04.nb⟩
                      · rw [upd_ne (ne_of_none e nA)]
                        exact x04.hh b o e
                      · rw [upd_ne (ne_of_none e nA4)]
                        exact x04.bh b o e
        · have e : i = ds.length := by omega
          subst e
          refine .inl ⟨wki.1 (Nat.le_refl _), ?_⟩
          rw [List.drop_length] at ec
          cases ec
          rw [List.append_nil] at ey
          subst ey
          have x0 := x.trans xi
          refine q (.ref A) (upd Bi A (.lst acc)) Hi ⟨x0.bb.trans (upd_free nA'), x0.hh, fun b o e => ?_, fun a h n => ?_⟩ (Dp.lst_new (hacc.same (upd_free nA')))
          · by_cases hb : b = A
            · rw [hb, upd_same] at e
              rw [hb, eA]; exact e
            · rw [upd_ne hb] at e
              exact x0.bh b o e
          · have hb : a ≠ A := fun z => h (by rw [z]; exact x.hh.free nA)
            rw [upd_ne hb]
            exact x0.nb a h n
section
variable {I : Info} {sc : Scope} {N : List Str} {k : Nat} {F : FT} {w : Wd} {X : Cx} {elt iter : Expr} {ifs : List Expr} {mi : M (List D)} {mt : M Bool} {me : M D} {pos : Pos}
theorem p_comp (C : CtxOk I sc N k F w X) (hc : X.calm = true) {tg : Tg} {sc' : Scope} {own : List (Str × Nat)} (hb : blkC N sc sc' own = true) (hg : tg.wf N sc' = true) (hix : ∀ i ∈ tg.ixs, i ∈ own.map (·.2)) (hi : PI X tg.py iter (tI w mi))
    (ht : ∀ (s : Shared) (H : Hp) (A : Addr) (cl : List (Str × Addr)) (fp : List Addr), PTs (X.blk s H sc' (compEnvC sc' cl A X.env) fp) ifs (tT w.cold mt))
    (he : ∀ (s : Shared) (H : Hp) (A : Addr) (cl : List (Str × Addr)) (fp : List Addr), PE (X.blk s H sc' (compEnvC sc' cl A X.env) fp) elt (tE w.cold me)) (hs : ∀ x, foldedSetIterable iter X.env x = pure x) :
    PE X (.ListComp elt [⟨tg.py, iter, ifs, 0⟩] sc' pos) (tE w fun ρ => (mi ρ).bind fun ds => (compL (fun d => tg.set d (wipeS ρ (own.map (·.2)))) (fun ρ => (mt ρ).nx) (fun ρ => (me ρ).nx) ds).bind fun ys => .ok (.list ys)) :=
  PE.imp (pe_lc hc (by rw [C.hN]; exact C.nd) hi (C.blkOk hb) (fun s H A cl fp => p_tg (C.blk sc' s H A cl fp) hc hg) ht he hs) fun σ H Q h => comp_read hix h
end
end CH

/-! CH 10: built-ins; every piece. -/
namespace CH
open PySem PySem.Spec PyProof.Rows L2
section
variable {X : Cx} {w : Wd} {e : Expr} {es : List Expr} {a b c : Expr} {ma mb mc : M D} {ms : M (List D)} {pos p q : Pos}
theorem p_len (hK : X.K = w.K) (hg : Gl X "len") (hm : X.mg "len" = none) (ha : PE X a (tE w ma)) (hs : starEach [a] X.env = (false, eval a X.env) :: starEach [] X.env) :
    PE X (.Call (.Name "len" p) [a] [] q) (tE w fun ρ => (ma ρ).bind fun d => R.of (biS .len d)) := by
  refine PE.imp (pe_callB (CallR.or call_len_seq call_len_str) hg hm PySem.boot_len (pa_cons ha pa_nil hs) (he := hs) (hpl := rfl)) fun σ H Q ⟨B, ρ, r, q⟩ => ?_
  have ll := lim_line
  refine tEi (tE_bind r q) fun v H' ⟨d, B', e1, x, hd, q'⟩ => ?_
  obtain ⟨z, ez, qz⟩ := ev_of q'
  rw [hK]
  cases hd with
  | lst h1 r1 =>
    cases ez
    refine .inl ⟨_, _, rfl, .inl (x.bh.seq h1), ?_⟩
    rw [r1.length]
    exact fin_same x.bh (.int _) qz
  | tup h1 r1 =>
    cases ez
    refine .inl ⟨_, _, rfl, .inr (x.bh.seqT h1), ?_⟩
    rw [r1.length]
    exact fin_same x.bh (.int _) qz
  | str y =>
    simp only [biS] at ez
    split at ez
    · cases ez
      exact .inr ⟨_, rfl, by omega, fin_same x.bh (.int _) qz⟩
    · cases ez
  | _ => cases ez
theorem p_list (hK : X.K = w.K) (hg : Gl X "list") (hm : X.mg "list" = none) (ha : PE X a (tE w ma)) (hs : starEach [a] X.env = (false, eval a X.env) :: starEach [] X.env) :
    PE X (.Call (.Name "list" p) [a] [] q) (tE w fun ρ => (ma ρ).bind fun d => R.of (biS .list d)) := by
  refine PE.imp (pe_callTy call_list_of hg hm (by decide +kernel) (pa_cons ha pa_nil hs) (he := hs) (hpl := rfl)) fun σ H Q ⟨B, ρ, r, q⟩ => ?_
  refine tEi (tE_bind r q) fun v H' ⟨d, B', e1, x, hd, q'⟩ => ?_
  obtain ⟨z, ez, qz⟩ := ev_of q'
  rw [hK]
  cases hd with
  | lst h1 r1 =>
    cases ez
    exact ⟨_, _, rfl, .inl (x.bh.seq h1), fin_lst x.bh r1 qz⟩
  | tup h1 r1 =>
    cases ez
    exact ⟨_, _, rfl, .inr (x.bh.seqT h1), fin_lst x.bh r1 qz⟩
  | _ => cases ez
theorem p_tuple (hK : X.K = w.K) (hg : Gl X "tuple") (hm : X.mg "tuple" = none) (ha : PE X a (tE w ma)) (hs : starEach [a] X.env = (false, eval a X.env) :: starEach [] X.env) :
    PE X (.Call (.Name "tuple" p) [a] [] q) (tE w fun ρ => (ma ρ).bind fun d => R.of (biS .tuple d)) := by
  refine PE.imp (pe_callTy call_tuple_of hg hm (by decide +kernel) (pa_cons ha pa_nil hs) (he := hs) (hpl := rfl)) fun σ H Q ⟨B, ρ, r, q⟩ => ?_
  refine tEi (tE_bind r q) fun v H' ⟨d, B', e1, x, hd, q'⟩ => ?_
  obtain ⟨z, ez, qz⟩ := ev_of q'
  rw [hK]
  cases hd with
  | lst h1 r1 =>
    cases ez
    exact ⟨_, _, rfl, .inl ⟨x.bh.seq h1, fin_tup x.bh r1 qz⟩⟩
  | tup h1 r1 =>
    cases ez
    exact ⟨_, _, rfl, .inr ⟨x.bh.seqT h1, fin_same x.bh (.tup h1 r1) qz⟩⟩
  | _ => cases ez
def tyN : D → String
  | .none => "NoneType"
  | .bool _ => "bool"
  | .int _ => "int"
  | .str _ => "str"
  | .list _ => "list"
  | .tuple _ => "tuple"
  | .dict _ => "dict"
def Ty.sn : Ty → String
  | .str => "str"
  | .tuple => "tuple"
  | .int => "int"
  | .bool => "bool"
  | .list => "list"
theorem ty_nm (t : Ty) : t.nm = Str.ofString t.sn := by cases t <;> rfl
theorem kit_dat (t : Ty) (d : D) (h : ∀ xs, d ≠ .dict xs) : kitB (tyN d) t.sn = some (tyS t d) := by
  cases d with
  | dict xs => exact absurd rfl (h xs)
  | none => cases t <;> decide +kernel
  | bool b => cases t <;> (show kitB "bool" _ = _) <;> (first | (show _ = some true; decide +kernel) | (show _ = some false; decide +kernel))
  | int b => cases t <;> (show kitB "int" _ = _) <;> (first | (show _ = some true; decide +kernel) | (show _ = some false; decide +kernel))
  | str b => cases t <;> (show kitB "str" _ = _) <;> (first | (show _ = some true; decide +kernel) | (show _ = some false; decide +kernel))
  | list b => cases t <;> (show kitB "list" _ = _) <;> (first | (show _ = some true; decide +kernel) | (show _ = some false; decide +kernel))
  | tuple b => cases t <;> (show kitB "tuple" _ = _) <;> (first | (show _ = some true; decide +kernel) | (show _ = some false; decide +kernel))
theorem seqL_ty {K : PySem.W.Frag} {H : Hp} {a : Addr} {xs : List V} (h : SqL K H a xs) : TyX K H (.ref a) (.type "list") := by
  rcases h with (h | ⟨o, h⟩) | ⟨o, its, n, hk, hc, _⟩
  · exact .base (.lst h)
  · exact .base (.frz h)
  · exact .kList hk hc
theorem seqT_ty {K : PySem.W.Frag} {H : Hp} {a : Addr} {xs : List V} (h : SqT K H a xs) : TyX K H (.ref a) (.type "tuple") := by
  rcases h with (h | ⟨o, h⟩) | ⟨o, its, n, hk, hc, _⟩
  · exact .base (.tup h)
  · exact .fTuple h
  · exact .kTuple hk hc
theorem dp_ty {K : PySem.W.Frag} {H : Hp} {v : V} {d : D} (h : Dp K H v d) : TyX K H v (.type (tyN d)) ∧ ∀ xs, d ≠ .dict xs := by
  cases h with
  | non => exact ⟨.base .non, fun _ z => nomatch z⟩
  | bl b => exact ⟨.base (.bl b), fun _ z => nomatch z⟩
  | int b => exact ⟨.base (.int b), fun _ z => nomatch z⟩
  | str b => exact ⟨.base (.str b), fun _ z => nomatch z⟩
  | lst h1 _ => exact ⟨seqL_ty h1, fun _ z => nomatch z⟩
  | tup h1 _ => exact ⟨seqT_ty h1, fun _ z => nomatch z⟩
theorem boot_ty (t : Ty) : bootBuiltins t.nm = some (.type t.sn) := by cases t <;> decide +kernel
theorem nm_ty1 (t : Ty) : t.nm ≠ "__name__" := by cases t <;> decide +kernel
theorem nm_ty2 (t : Ty) : (t.nm == ("__debug__" : Str)) = false := by cases t <;> decide +kernel
theorem p_isi (hK : X.K = w.K) (hg : Gl X "isinstance") (hm : X.mg "isinstance" = none) {r : Pos} (t : Ty) (hgt : Gl X t.nm) (hmt : X.mg t.nm = none) (ha : PE X a (tE w ma)) (hs : starEach [a, .Name t.nm q] X.env = (false, eval a X.env) :: starEach [.Name t.nm q] X.env) :
    PE X (.Call (.Name "isinstance" p) [a, .Name t.nm q] [] r) (tE w fun ρ => (ma ρ).bind fun d => .ok (.bool (tyS t d))) := by
  refine PE.imp (pe_callB call_isi hg hm PyProof.Rows.boot_isinstance (pa_cons ha (pa_cons (pe_bltn (v := .ty t.sn) hgt hmt (boot_ty t) rfl (nm_ty1 t) (nm_ty2 t)) pa_nil) hs) (he := hs) (hpl := rfl)) fun σ H Q ⟨B, ρ, r, q⟩ => ?_
  refine tEi (tE_bind r q) fun v H' ⟨d, B', e1, x, hd, q'⟩ => ?_
  rw [hK]
  obtain ⟨h1, h2⟩ := dp_ty (hd.same x.bh)
  exact ⟨v, .ty t.sn, _, _, _, rfl, .ty _, h1, kit_ty (kit_dat t d h2), fin_same x.bh (.bl _) q'⟩
end

/-! ### lengths -/
theorem evs_len (I : Info) (F : FT) : ∀ (es : Es) (ρ : List Sl) (ds : List D), (evs I F es).l ρ = .ok ds → ds.length = es.len
  | .nil, ρ, ds, h => by cases h; rfl
  | .cons a .nil, ρ, ds, h => by
    simp only [evs] at h
    cases e : (ev I F a).v ρ with
    | ok d => rw [e] at h; cases h; rfl
    | exc _ _ => rw [e] at h; cases h
    | stuck => rw [e] at h; cases h
  | .cons a (.cons b r), ρ, ds, h => by
    simp only [evs] at h
    cases e : (ev I F a).v ρ with
    | ok d =>
      rw [e] at h
      have h : (((evs I F (.cons b r)).l ρ).bind fun ds => R.ok (d :: ds)) = .ok ds := h
      cases e2 : (evs I F (.cons b r)).l ρ with
      | ok ds' =>
        rw [e2] at h
        cases h
        show ds'.length + 1 = _
        rw [evs_len I F (.cons b r) ρ ds' e2]
        rfl
      | exc _ _ => rw [e2] at h; cases h
      | stuck => rw [e2] at h; cases h
    | exc _ _ => rw [e] at h; cases h
    | stuck => rw [e] at h; cases h
end CH

/-! CH 11: every piece does what it comes to. -/
namespace CH
open PySem PySem.Spec PyProof.Rows L2

theorem mgn {I : Info} {sc : Scope} {N : List Str} {k : Nat} {F : FT} {w : Wd} {X : Cx} (C : CtxOk I sc N k F w X) (x : Str) (h : x ∈ bltNames := by decide +kernel) : X.mg x = none := C.bl x h
theorem and2 {a b : Bool} (h : (a && b) = true) : a = true ∧ b = true := by rwa [Bool.and_eq_true] at h
theorem ty_blt (t : Ty) : t.nm ∈ bltNames := by cases t <;> decide +kernel
/-- a stuck piece asks nothing -/
theorem p_stuck {X : Cx} {w : Wd} {e : Expr} : PE X e (tE w fun _ => .stuck) := ⟨fun pins s σ H Q I ⟨B, ρ, r, q⟩ => q.elim⟩
theorem p_stuckT {X : Cx} {w : Wd} {e : Expr} : PT X e (tT w fun _ => .stuck) := ⟨fun pins s σ H Q I ⟨B, ρ, r, q⟩ => q.elim⟩
theorem p_stuckW {X : Cx} {w : Wd} {e : Expr} : PW X e (tT w fun _ => .stuck) := ⟨fun wh pins s σ H Q I ⟨B, ρ, r, q⟩ => q.elim⟩
structure SE (X : Cx) (w : Wd) (e : Expr) (m : P) : Prop where
  v : PE X e (tE w m.v)
  t : PT X e (tT w m.t)
structure SEs (X : Cx) (w : Wd) (es : List Expr) (m : Ps) (n : Nat) : Prop where
  l : PA X es (tA w m.l)
  andV : ∀ p, PE X (.BoolOp .And es p) (tE w m.andV)
  orV : ∀ p, PE X (.BoolOp .Or es p) (tE w m.orV)
  andT : ∀ p, PW X (.BoolOp .And es p) (tT w m.andT)
  orT : ∀ p, PW X (.BoolOp .Or es p) (tT w m.orT)
  all : n ≤ 1 → PTs X es (tT w m.allT)
theorem SE.mk1 {X : Cx} {w : Wd} {e : E} {m : M D} (hK : X.K = w.K) (h : PE X e.py (tE w m)) (hp : plainT e = true) : SE X w e.py (mkV m) := ⟨h, tst hK h (true_py hp X.env)⟩
section
variable {I : Info} {N : List Str} {k : Nat} {F : FT}
mutual
theorem snd : ∀ (e : E) {sc : Scope} {w : Wd} {X : Cx} (C : CtxOk I sc N k F w X), e.wf I N sc X.calm = true → SE X w e.py (ev I F e)
  | .var i x p, sc, w, X, C, h => by
    simp only [E.wf, Bool.and_eq_true, decide_eq_true_eq] at h
    exact SE.mk1 (e := .var i x p) C.hK (p_var (by rw [C.hN]; exact h.1.1) (C.vis h.1.2) (okNm1 h.2) (okNm2 h.2)) rfl
  | .glob g x p, sc, w, X, C, h => by
    simp only [E.wf, Bool.and_eq_true, decide_eq_true_eq] at h
    obtain ⟨⟨h1, h2⟩, h3⟩ := h
    cases e : I.globs[g]? with
    | none => rw [e] at h3; cases h3
    | some y =>
      obtain ⟨x', d⟩ := y
      rw [e] at h3
      have h3 : some x' = some x := h3
      cases h3
      obtain ⟨u, v, m1, m2, m3⟩ := C.gl g _ _ e
      refine SE.mk1 (e := .glob g _ p) C.hK ?_ rfl
      have z := p_glob (w := w) (pos := p) (C.gx h1) m1 m2 m3 (okNm1 h2)
      simp only [e]
      exact z
  | .cst c j p, sc, w, X, C, h => SE.mk1 (e := .cst c j p) C.hK p_cst rfl
  | .tup es j p, sc, w, X, C, h => by
    simp only [E.wf, Bool.and_eq_true, decide_eq_true_eq] at h
    exact SE.mk1 (e := .tup es j p) C.hK (p_tup (snds es C h.1).l fun ρ ds e => by rw [evs_len I F es ρ ds e]; exact h.2) rfl
  | .lst es p, sc, w, X, C, h => by
    simp only [E.wf, Bool.and_eq_true, decide_eq_true_eq] at h
    exact SE.mk1 (e := .lst es p) C.hK (p_lst (snds es C h.1).l fun ρ ds e => by rw [evs_len I F es ρ ds e]; exact h.2) rfl
  | .bin op a b p, sc, w, X, C, h => SE.mk1 (e := .bin op a b p) C.hK (p_bin C.hK op (snd a C (and2 h).1).v (snd b C (and2 h).2).v) rfl
  | .neg a p, sc, w, X, C, h => SE.mk1 (e := .neg a p) C.hK (p_neg (snd a C h).v) rfl
  | .not a p, sc, w, X, C, h => ⟨p_not C.hK (snd a C h).v, p_notT (snd a C h).t⟩
  | .bop .And es p, sc, w, X, C, h => ⟨(snds es C h).andV p, ((snds es C h).andT p).pt⟩
  | .bop .Or es p, sc, w, X, C, h => ⟨(snds es C h).orV p, ((snds es C h).orT p).pt⟩
  | .cmp op a b p, sc, w, X, C, h => ⟨p_cmp C.hK C.un op (snd a C (and2 h).1).v (snd b C (and2 h).2).v (marks_py op b), p_cmpT C.hK C.un op (snd a C (and2 h).1).v (snd b C (and2 h).2).v (marks_py op b)⟩
  | .chn o1 o2 a b c p, sc, w, X, C, h =>
    have h1 := and2 h
    have h2 := and2 h1.1
    ⟨p_chn C.hK C.un o1 o2 (snd a C h2.1).v (snd b C h2.2).v (snd c C h1.2).v (marks2_py o1 o2 b c), p_chnT C.hK C.un o1 o2 (snd a C h2.1).v (snd b C h2.2).v (snd c C h1.2).v (marks2_py o1 o2 b c)⟩
  | .ife t a b p, sc, w, X, C, h =>
    have h1 := and2 h
    have h2 := and2 h1.1
    ⟨p_ife (snd t C h2.1).t (snd a C h2.2).v (snd b C h1.2).v, p_stuckT⟩
  | .ix a i p, sc, w, X, C, h => SE.mk1 (e := .ix a i p) C.hK (p_ix C.hK (snd a C (and2 h).1).v (snd i C (and2 h).2).v (plain_py i)) rfl
  | .sl a lo hi p q, sc, w, X, C, h =>
    have h1 := and2 h
    have h2 := and2 h1.1
    SE.mk1 (e := .sl a lo hi p q) C.hK (p_sl C.hK (snd a C h2.1).v (sndo lo C h2.2) (sndo hi C h1.2)) rfl
  | .rev .., sc, w, X, C, h => by cases h
  | .call f x es p q, sc, w, X, C, h => by
    simp only [E.wf, Bool.and_eq_true] at h
    obtain ⟨⟨⟨⟨hc, hg⟩, hn⟩, hes⟩, hf⟩ := h
    cases e : I.fns[f]? with
    | none => rw [e] at hf; cases hf
    | some fi =>
      rw [e] at hf
      simp only [Bool.and_eq_true, decide_eq_true_eq] at hf
      obtain ⟨⟨h1, h2⟩, h3⟩ := hf
      subst h1
      obtain ⟨fa, fd, ps, FO, mgf, kp, bs⟩ := (C.fs hc f fi e).at_
      obtain ⟨ds, dvs, hb, hv, hl, hd⟩ := bs es.len h2 h3
      refine SE.mk1 (e := .call f fi.name es p q) C.hK ?_ rfl
      show PE X (.Call (.Name fi.name p) es.py [] q) (tE w fun ρ => ((evs I F es).l ρ).bind fun ds => match I.fns[f]? with
        | some fi => F f (ds ++ fi.fill ds.length)
        | none => .stuck)
      simp only [e]
      have hS := snds es C hes
      match es, hS, bs, hl, hd, h2, h3, hes with
      | .cons a r, hS, bs, hl, hd, h2, h3, hes =>
        exact PE.imp (pe_callSD FO (C.rm hc) (C.gx hg) mgf kp hb hv (fun σ => passAt C.tk σ) hS.l (okNm1 hn) (star_py a r.py X.env) (star_any r X.env _)) fun σ H Q h =>
          call_read (evs_len I F (.cons a r)) hl h2 hd (fun _ _ _ z => z) h
      | .nil, hS, bs, hl, hd, h2, h3, hes =>
        exact PE.imp (pe_call0SD FO (C.rm hc) (C.gx hg) mgf kp hb hv (fun σ => passAt C.tk σ) (okNm1 hn)) fun σ H Q h =>
          call_read (evs_len I F .nil) hl h2 hd (fun _ _ _ ⟨B, ρ, r, q⟩ => q _ _ _ (Ext.refl r.sub) .nil) h
  | .bi b a p q, sc, w, X, C, h => by
    simp only [E.wf, Bool.and_eq_true] at h
    obtain ⟨⟨⟨hc, hg⟩, ha⟩, hb⟩ := h
    cases b with
    | len => exact SE.mk1 (e := .bi .len a p q) C.hK (p_len C.hK (C.gx hg) (mgn C "len") (snd a C ha).v (star_py a [] X.env)) rfl
    | list => exact SE.mk1 (e := .bi .list a p q) C.hK (p_list C.hK (C.gx hg) (mgn C "list") (snd a C ha).v (star_py a [] X.env)) rfl
    | tuple => exact SE.mk1 (e := .bi .tuple a p q) C.hK (p_tuple C.hK (C.gx hg) (mgn C "tuple") (snd a C ha).v (star_py a [] X.env)) rfl
    | sorted => cases hb
    | str => cases hb
  | .isi t a p q r, sc, w, X, C, h => by
    simp only [E.wf, Bool.and_eq_true] at h
    exact SE.mk1 (e := .isi t a p q r) C.hK (p_isi C.hK (C.gx h.1.1) (mgn C "isinstance") t (C.gx h.1.2) (C.bl _ (ty_blt t)) (snd a C h.2).v (star_py a _ X.env)) rfl
  | .srev .., sc, w, X, C, h => by cases h
  | .sset .., sc, w, X, C, h => by cases h
  | .join s a p q, sc, w, X, C, h => by cases h
  | .leno i x p q r, sc, w, X, C, h => by
    simp only [E.wf, Bool.and_eq_true, decide_eq_true_eq] at h
    obtain ⟨⟨⟨h1, h2⟩, h3⟩, h4⟩ := h
    exact SE.mk1 (e := .leno i x p q r) C.hK (p_leno (mgn C "len") (C.gx h4) (by rw [C.hN]; exact h1) (C.vis h2) (okNm1 h3) (okNm2 h3)) rfl
  | .comp elt tg it ifs sc' own p, sc, w, X, C, h => by
    simp only [E.wf, Bool.and_eq_true, decide_eq_true_eq] at h
    obtain ⟨⟨⟨⟨⟨⟨⟨⟨hc, hit⟩, htw⟩, hb⟩, htg⟩, hix⟩, hifs⟩, hle⟩, hel⟩ := h
    refine SE.mk1 (e := .comp elt tg it ifs sc' own p) C.hK ?_ rfl
    refine p_comp C hc hb htg (fun i hi => ?_) (sndi it tg C hc hit htw) (fun s H A cl fp => (snds ifs (C.blk sc' s H A cl fp) hifs).all hle) (fun s H A cl fp => (snd elt (C.blk sc' s H A cl fp) hel).v) (fun x => fold_it it X.env x)
    have z := List.all_eq_true.mp hix i hi
    simpa using z
  | .exis .., sc, w, X, C, h => by cases h
  | .exat .., sc, w, X, C, h => by cases h
theorem snds : ∀ (es : Es) {sc : Scope} {w : Wd} {X : Cx} (C : CtxOk I sc N k F w X), es.wf I N sc X.calm = true → SEs X w es.py (evs I F es) es.len
  | .nil, sc, w, X, C, h => ⟨p_nil, fun _ => p_stuck, fun _ => p_stuck, fun _ => p_stuckW, fun _ => p_stuckW, fun _ => ⟨fun pins s σ H Q I ⟨B, ρ, r, q⟩ => pts_nil.run pins s σ H Q I (q _ _ (Ext.refl r.sub))⟩⟩
  | .cons a .nil, sc, w, X, C, h => by
    have ha := snd a C (and2 h).1
    refine ⟨?_, fun p => pe_one ha.v, fun p => pe_one ha.v, fun p => pw_and1 ha.t, fun p => pw_or1 ha.t, fun _ => pts_one ha.t⟩
    refine PA.imp (p_cons ha.v p_nil (star_py a [] X.env)) fun σ H Q ⟨B, ρ, r, q⟩ => ⟨B, ρ, r, q⟩
  | .cons a (.cons b r), sc, w, X, C, h => by
    have ha := snd a C (and2 h).1
    have hr := snds (.cons b r) C (and2 h).2
    exact ⟨p_cons ha.v hr.l (star_py a _ X.env), fun p => p_and C.hK ha.v (hr.andV p), fun p => p_or C.hK ha.v (hr.orV p), fun p => p_andT ha.t (hr.andT p), fun p => p_orT ha.t (hr.orT p), fun z => by
      have z' : r.len + 1 + 1 ≤ 1 := z
      omega⟩
theorem sndo : ∀ (o : Oe) {sc : Scope} {w : Wd} {X : Cx} (C : CtxOk I sc N k F w X), o.wf I N sc X.calm = true → PO X o.py (tOo w (evo I F o))
  | .no, sc, w, X, C, h => p_no
  | .so a, sc, w, X, C, h => p_so (snd a C h).v
theorem sndi : ∀ (it : It) (tg : Tg) {sc : Scope} {w : Wd} {X : Cx} (C : CtxOk I sc N k F w X), X.calm = true → it.wf I N sc X.calm = true → (match it with
      | .enum .. => tg.isTwo
      | .zip .. => tg.isTwo
      | _ => true) = true → PI X tg.py it.py (tI w (evi I F it))
  | .seq a, tg, sc, w, X, C, hc, h, ht => p_seq C.hK (snd a C h).v
  | .rng es p q, tg, sc, w, X, C, hc, h, ht => by
    have h0 := and2 h
    have h1 := and2 h0.1
    have h3 : es.len ≤ 3 := of_decide_eq_true h0.2
    have hS := snds es C h1.2
    have hl := evs_len I F es
    match es, hS, hl, h3 with
    | .nil, hS, hl, _ => exact ⟨fun pins s σ H Q I ⟨B, ρ, r, q⟩ => q.elim⟩
    | .cons a .nil, hS, hl, _ => exact p_rng1 (C.gx h1.1) (mgn C "range") hS.l hl (star_py a [] X.env)
    | .cons a (.cons b .nil), hS, hl, _ => exact p_rng2 (C.gx h1.1) (mgn C "range") hS.l hl (by show starEach (a.py :: b.py :: []) X.env = _; rw [star_py, star_py]; rfl) (star_py b [] X.env)
    | .cons a (.cons b (.cons c .nil)), hS, hl, _ => exact p_rng3 (C.gx h1.1) (mgn C "range") hS.l hl (star_py a _ X.env) (star_any (.cons b (.cons c .nil)) X.env q)
    | .cons a (.cons b (.cons c (.cons d r))), hS, hl, h3 =>
      have z : r.len + 1 + 1 + 1 + 1 ≤ 3 := h3
      omega
  | .enum a p q, .two i x p1 j y p2 kk r, sc, w, X, C, hc, h, ht => p_enum C.hK (C.gx (and2 h).1) (mgn C "enumerate") (snd a C (and2 h).2).v (star_py a [] X.env)
  | .enum a p q, .one .., sc, w, X, C, hc, h, ht => by cases ht
  | .zip a b p q, .two i x p1 j y p2 kk r, sc, w, X, C, hc, h, ht =>
    have h1 := and2 h
    have h2 := and2 h1.1
    p_zip C.hK (C.gx h2.1) (mgn C "zip") (snd a C h2.2).v (snd b C h1.2).v (star_py a _ X.env) (star_py b [] X.env)
  | .zip a b p q, .one .., sc, w, X, C, hc, h, ht => by cases ht
  | .revd a p q, tg, sc, w, X, C, hc, h, ht => p_revd C.hK (C.gx (and2 h).1) (mgn C "reversed") (snd a C (and2 h).2).v (star_py a [] X.env)
end
end
end CH

/-! CH 12: statements: how they are written, what they come to. -/
namespace CH
open PySem PySem.Spec PyProof.Rows L2

/-- an expression that makes a new list -/
inductive Fe where
  | lst (es : Es) (p : Pos)
  | ife (t : E) (a b : Es) (pa pb p : Pos)
def Fe.py : Fe → Expr
  | .lst es p => .List es.py p
  | .ife t a b pa pb p => .IfExp t.py (.List a.py pa) (.List b.py pb) p
@[simp] def evf (I : Info) (F : FT) : Fe → M (List D)
  | .lst es _ => (evs I F es).l
  | .ife t a b _ _ _ => fun ρ => ((ev I F t).t ρ).bind fun k => if k = true then (evs I F a).l ρ else (evs I F b).l ρ

mutual
inductive S where
  | expr (e : E) (p : Pos)
  | app (i : Nat) (x : Str) (e : E) (px pa pc p : Pos)
  | ext (i : Nat) (x : Str) (e : E) (px pa pc p : Pos)
  | set (i : Nat) (x : Str) (e : E) (px p : Pos)
  | setF (i : Nat) (x : Str) (e : Fe) (px p : Pos)
  | par (i : Nat) (x : Str) (px : Pos) (j : Nat) (y : Str) (py : Pos) (kt : Nat) (pt : Pos) (a b : E) (kv : Nat) (pv p : Pos)
  | par3 (i : Nat) (x : Str) (px : Pos) (j : Nat) (y : Str) (py : Pos) (l : Nat) (z : Str) (pz : Pos) (kt : Nat) (pt : Pos) (a b c : E) (kv : Nat) (pv p : Pos)
  | unp (tg : Tg) (e : E) (p : Pos)
  | aug (i : Nat) (x : Str) (e : E) (px p : Pos)
  | ite (t : E) (a b : Ss) (p : Pos)
  | for_ (tg : Tg) (it : It) (b : Ss) (p : Pos)
  | while_ (t : E) (b : Ss) (p : Pos)
  | ret (e : E) (p : Pos)
  | rais (c : Nat) (y : Str) (m : Str) (k : Nat) (py pm pc p : Pos)
  | raisF (c : Nat) (y : Str) (e : E) (py pc p : Pos)
  | brk (p : Pos)
  | cont (p : Pos)
  | pass (p : Pos)
inductive Ss where
  | nil
  | cons (s : S) (r : Ss)
  | fz (i : Nat) (r : Ss)
end
mutual
def S.py : S → Stmt
  | .expr e p => .Expr e.py p
  | .app _ x e px pa pc p => .Expr (.Call (.Attribute (.Name x px) "append" pa) [e.py] [] pc) p
  | .ext _ x e px pa pc p => .Expr (.Call (.Attribute (.Name x px) "extend" pa) [e.py] [] pc) p
  | .set _ x e px p => .Assign [.Name x px] e.py p
  | .setF _ x e px p => .Assign [.Name x px] e.py p
  | .par _ x px _ y py kt pt a b kv pv p => .Assign [.Tuple [.Name x px, .Name y py] kt pt] (.Tuple [a.py, b.py] kv pv) p
  | .par3 _ x px _ y py _ z pz kt pt a b c kv pv p => .Assign [.Tuple [.Name x px, .Name y py, .Name z pz] kt pt] (.Tuple [a.py, b.py, c.py] kv pv) p
  | .unp tg e p => .Assign [tg.py] e.py p
  | .aug _ x e px p => .AugAssign (.Name x px) .Add e.py p
  | .ite t a b p => .If t.py a.py b.py p
  | .for_ tg it b p => .For tg.py it.py b.py [] p
  | .while_ t b p => .While t.py b.py [] p
  | .ret e p => .Return (some e.py) p
  | .rais _ y m k py pm pc p => .Raise (some (.Call (.Name y py) [.Constant (.str m) k pm] [] pc)) none p
  | .raisF _ y e py pc p => .Raise (some (.Call (.Name y py) [e.py] [] pc)) none p
  | .brk p => .Break p
  | .cont p => .Continue p
  | .pass p => .Pass p
def Ss.py : Ss → List Stmt
  | .nil => []
  | .cons s r => s.py :: r.py
  | .fz _ r => r.py
end

/-- what a statement comes to: on with these slots; back with a value; out of the loop; to its next turn; an exception -/
inductive O where
  | nx (ρ : List Sl)
  | rt (d : D)
  | bk (ρ : List Sl)
  | ct (ρ : List Sl)
  | ex (c : Nat) (f : Option D) (ρ : List Sl)
  | stuck
def O.seq (o : O) (k : List Sl → O) : O := match o with
  | .nx ρ => k ρ
  | .rt d => .rt d
  | .bk ρ => .bk ρ
  | .ct ρ => .ct ρ
  | .ex c f ρ => .ex c f ρ
  | .stuck => .stuck
def onR {α : Type} (r : R α) (ρ : List Sl) (k : α → O) : O := match r with
  | .ok a => k a
  | .exc c f => .ex c f ρ
  | .stuck => .stuck
@[simp] def forS (bd : D → List Sl → Option (List Sl)) (body : List Sl → O) : List D → List Sl → O
  | [], ρ => .nx ρ
  | d :: ds, ρ => match bd d ρ with
    | none => .stuck
    | some ρ' => match body ρ' with
      | .nx ρ2 => forS bd body ds ρ2
      | .ct ρ2 => forS bd body ds ρ2
      | .bk ρ2 => .nx ρ2
      | .rt d => .rt d
      | .ex c f ρ2 => .ex c f ρ2
      | .stuck => .stuck
def whileS (test : M Bool) (body : List Sl → O) : Nat → List Sl → O
  | 0, _ => .stuck
  | n + 1, ρ => onR (test ρ) ρ fun k => if k = true then (match body ρ with
      | .nx ρ2 => whileS test body n ρ2
      | .ct ρ2 => whileS test body n ρ2
      | .bk ρ2 => .nx ρ2
      | .rt d => .rt d
      | .ex c f ρ2 => .ex c f ρ2
      | .stuck => .stuck) else .nx ρ
/-- the turns that a while loop may have -/
def turns : Nat := 1000000
mutual
@[simp] def exs (I : Info) (F : FT) : S → List Sl → O
  | .expr e _ => fun ρ => onR ((ev I F e).v ρ) ρ fun _ => .nx ρ
  | .app i _ e _ _ _ _ => fun ρ => match ρ[i]? with
    | some (.own ds) => onR ((ev I F e).v ρ) ρ fun d => if ds.length < lim then .nx (ρ.set i (.own (ds ++ [d]))) else .stuck
    | _ => .stuck
  | .ext i _ e _ _ _ _ => fun ρ => match ρ[i]? with
    | some (.own ds) => onR ((ev I F e).v ρ) ρ fun d => match d with
      | .list es => if ds.length + es.length ≤ lim then .nx (ρ.set i (.own (ds ++ es))) else .stuck
      | _ => .stuck
    | _ => .stuck
  | .set i _ e _ _ => fun ρ => onR ((ev I F e).v ρ) ρ fun d => .nx (setS ρ i d)
  | .setF i _ e _ _ => fun ρ => onR (evf I F e ρ) ρ fun ds => .nx (ρ.set i (.own ds))
  | .par i _ _ j _ _ _ _ a b _ _ _ => fun ρ => onR ((evs I F (.cons a (.cons b .nil))).l ρ) ρ fun ds => match ds with
    | [d, e] => .nx (setS (setS ρ i d) j e)
    | _ => .stuck
  | .par3 i _ _ j _ _ l _ _ _ _ a b c _ _ _ => fun ρ => onR ((evs I F (.cons a (.cons b (.cons c .nil)))).l ρ) ρ fun ds => match ds with
    | [d, e, f] => .nx (setS (setS (setS ρ i d) j e) l f)
    | _ => .stuck
  | .unp tg e _ => fun ρ => onR ((ev I F e).v ρ) ρ fun d => match tg.set d ρ with
    | some ρ' => .nx ρ'
    | none => .stuck
  | .aug i _ e _ _ => fun ρ => match ρ[i]? with
    | some (.dat (.int n)) => onR ((ev I F e).v ρ) ρ fun d => match d with
      | .int m => .nx (setS ρ i (.int (n + m)))
      | _ => .stuck
    | _ => .stuck
  | .ite t a b _ => fun ρ => onR ((ev I F t).t ρ) ρ fun k => if k = true then exb I F a ρ else exb I F b ρ
  | .for_ tg it b _ => fun ρ => onR (evi I F it ρ) ρ fun ds => forS (fun d ρ => tg.set d ρ) (exb I F b) ds ρ
  | .while_ t b _ => fun ρ => whileS (ev I F t).t (exb I F b) turns ρ
  | .ret e _ => fun ρ => onR ((ev I F e).v ρ) ρ fun d => .rt d
  | .rais c _ _ _ _ _ _ _ => fun ρ => .ex c none ρ
  | .raisF _ _ _ _ _ _ => fun _ => .stuck
  | .brk _ => fun ρ => .bk ρ
  | .cont _ => fun ρ => .ct ρ
  | .pass _ => fun ρ => .nx ρ
@[simp] def exb (I : Info) (F : FT) : Ss → List Sl → O
  | .nil => fun ρ => .nx ρ
  | .cons s r => fun ρ => (exs I F s ρ).seq (exb I F r)
  | .fz i r => fun ρ => match ρ[i]? with
    | some (.own ds) => exb I F r (setS ρ i (.list ds))
    | _ => exb I F r ρ
end
def O.out : O → R D
  | .rt d => .ok d
  | .nx _ => .ok .none
  | .ex c f _ => .exc c f
  | _ => .stuck
/-- a def's body: n slots, the arguments first -/
@[simp] def runB (I : Info) (F : FT) (n : Nat) (b : Ss) (args : List D) : R D := (exb I F b (args.map Sl.dat ++ List.replicate (n - args.length) Sl.no)).out

/-! ### well written -/
def isTup : E → Bool
  | .tup .. => true
  | _ => false
def isLoc (sc : Scope) (x : Str) : Bool := match sc.names.lookup x with
  | some .local => true
  | _ => false
def compOk (sc : Scope) (x : Str) (px : Pos) : E → Bool
  | .comp _ _ _ _ sc' _ p => isLoc sc x && (px.line == p.line) && !(sc'.names.any fun (n, k) => n == x && (k == .local || k == .cell))
  | _ => true
def Fe.wf (I : Info) (N : List Str) (sc : Scope) : Fe → Bool
  | .lst es _ => es.wf I N sc true && decide (es.len ≤ 100)
  | .ife t a b _ _ _ => t.wf I N sc true && a.wf I N sc true && decide (a.len ≤ 100) && b.wf I N sc true && decide (b.len ≤ 100)
mutual
def S.wf (I : Info) (N : List Str) (sc : Scope) : S → Bool
  | .expr e _ => e.wf I N sc true && !isComp e
  | .app i x e _ pa pc _ => decide (N[i]? = some x) && visB sc x && okNm x && e.wf I N sc true && (pa.endLine == pc.line)
  | .ext i x e _ pa pc _ => decide (N[i]? = some x) && visB sc x && okNm x && e.wf I N sc true && (pa.endLine == pc.line)
  | .set i x e px _ => decide (N[i]? = some x) && locB sc x && e.wf I N sc true && compOk sc x px e
  | .setF i x e _ _ => decide (N[i]? = some x) && locB sc x && e.wf I N sc
  | .par i x px j y py _ _ a b _ _ _ => decide (N[i]? = some x) && isLoc sc x && decide (N[j]? = some y) && isLoc sc y && decide (i ≠ j) && decide (x ≠ y) && a.wf I N sc true && b.wf I N sc true && (py.line == px.line) &&
      !([a.py, b.py].all (foldedForSure 8)) && !([a.py, b.py].all (constantsAlone 8))
  | .par3 i x px j y py l z pz _ _ a b c _ _ _ => decide (N[i]? = some x) && isLoc sc x && decide (N[j]? = some y) && isLoc sc y && decide (N[l]? = some z) && isLoc sc z && decide (i ≠ j) && decide (i ≠ l) && decide (j ≠ l) && decide (x ≠ y) && decide (x ≠ z) && decide (y ≠ z) &&
      a.wf I N sc true && b.wf I N sc true && c.wf I N sc true && (py.line == px.line) && (pz.line == px.line) && !([a.py, b.py, c.py].all (foldedForSure 8)) && !([a.py, b.py, c.py].all (constantsAlone 8))
  | .unp tg e _ => tg.wf N sc && tg.isTwo && e.wf I N sc true && !isTup e && !isComp e
  | .aug i x e _ _ => decide (N[i]? = some x) && locB sc x && okNm x && e.wf I N sc true
  | .ite t a b _ => t.wf I N sc true && a.wf I N sc && b.wf I N sc
  | .for_ tg it b _ => tg.wf N sc && it.wf I N sc true && (match it with
      | .enum .. => tg.isTwo
      | .zip .. => tg.isTwo
      | _ => true) && b.wf I N sc
  | .while_ t b _ => t.wf I N sc true && b.wf I N sc
  | .ret e _ => e.wf I N sc true
  | .rais c y _ _ _ _ _ _ => glB sc y && okNm y && (match I.exs[c]? with
      | some xi => decide (xi.name = y) && xi.field.isNone
      | none => false)
  | .raisF _ _ _ _ _ _ => true
  | .brk _ => true
  | .cont _ => true
  | .pass _ => true
def Ss.wf (I : Info) (N : List Str) (sc : Scope) : Ss → Bool
  | .nil => true
  | .cons s r => s.wf I N sc && r.wf I N sc
  | .fz _ r => r.wf I N sc
end
end CH

/-! CH 13: the state of a body; the statements' rules. -/
namespace CH
open PySem PySem.Spec PyProof.Rows L2

/-- the entry's heaps B0, H0; the heaps and slots now -/
structure SInv (w : Wd) (B0 H0 B H : Hp) (σ : L2.St) (ρ : List Sl) : Prop where
  ext : Ext B0 H0 B H
  rel : Rel w.K w.sx B H σ ρ
  fr : ∀ (i : Nat) (ds : List D) (a : Addr), ρ[i]? = some (Sl.own ds) → σ[i]? = some (some (V.ref a)) → H0 a = none
theorem SInv.grow {w : Wd} {B0 H0 B H B' H' : Hp} {σ : L2.St} {ρ : List Sl} (s : SInv w B0 H0 B H σ ρ) (e : Ext B H B' H') : SInv w B0 H0 B' H' σ ρ := ⟨s.ext.trans e, s.rel.ext e, s.fr⟩
theorem SInv.setD {w : Wd} {B0 H0 B H : Hp} {σ : L2.St} {ρ : List Sl} (s : SInv w B0 H0 B H σ ρ) (i : Nat) {v : V} {d : D} (h : Dp w.K B v d) : SInv w B0 H0 B H (σ.set i (some v)) (setS ρ i d) := by
  refine ⟨s.ext, s.rel.setD i h, fun j ds a h1 h2 => ?_⟩
  rcases get_set h1 with ⟨_, e⟩ | ⟨n, h1⟩
  · cases e
  · rw [List.getElem?_set_ne (Ne.symm n)] at h2
    exact s.fr j ds a h1 h2
/-- a list of one's own is changed -/
theorem SInv.mut {w : Wd} {B0 H0 B H : Hp} {σ : L2.St} {ρ : List Sl} (s : SInv w B0 H0 B H σ ρ) {i : Nat} {ds es : List D} {a : Addr} {xs ys : List V} (ho : ρ[i]? = some (.own ds)) (hσ : σ[i]? = some (some (.ref a))) (hH : H a = some (.lst xs)) (hB : B a = none) (hy : DpAll w.K B ys es) :
    SInv w B0 H0 B (upd H a (.lst ys)) σ (ρ.set i (.own es)) := by
  have f0 := s.fr i ds a ho hσ
  have hl : i < ρ.length := (List.getElem?_eq_some_iff.mp ho).1
  have old : ∀ {j : Nat} {ds' : List D}, (ρ.set i (.own es))[j]? = some (.own ds') → ∃ ds'', ρ[j]? = some (.own ds'') := fun {j ds'} h => by
    rcases get_set h with ⟨rfl, _⟩ | ⟨_, h⟩
    · exact ⟨_, ho⟩
    · exact ⟨_, h⟩
  refine ⟨⟨s.ext.bb, fun b o e => ?_, fun b o e => ?_, s.ext.nb⟩, ⟨by rw [List.length_set]; exact s.rel.len, fun b o e => ?_, fun j d h => ?_, fun j ds' h => ?_, fun j k ds1 ds2 b h1 h2 h3 h4 => ?_, fun j c f h => ?_⟩, fun j ds' b h1 h2 => ?_⟩
  · rw [upd_ne (ne_of_none e f0)]
    exact s.ext.hh b o e
  · rw [upd_ne (ne_of_none e hB)]
    exact s.ext.bh b o e
  · rw [upd_ne (ne_of_none e hB)]
    exact s.rel.sub b o e
  · rcases get_set h with ⟨_, e⟩ | ⟨_, h⟩
    · cases e
    · exact s.rel.dat j d h
  · rcases get_set h with ⟨rfl, e⟩ | ⟨n, h⟩
    · cases e
      exact ⟨a, ys, hσ, upd_same, hB, hy⟩
    · obtain ⟨b, zs, h1, h2, h3, h4⟩ := s.rel.own j ds' h
      refine ⟨b, zs, h1, ?_, h3, h4⟩
      have nb : b ≠ a := fun z => by
        subst z
        exact n (s.rel.sep j i ds' ds b h ho h1 hσ)
      rw [upd_ne nb]
      exact h2
  · obtain ⟨d1, e1⟩ := old h1
    obtain ⟨d2, e2⟩ := old h2
    exact s.rel.sep j k d1 d2 b e1 e2 h3 h4
  · rcases get_set h with ⟨_, e⟩ | ⟨_, h⟩
    · cases e
    · exact s.rel.exc j c f h
  · obtain ⟨d1, e1⟩ := old h1
    exact s.fr j d1 b e1 h2
/-- a new list of one's own -/
theorem SInv.new {w : Wd} {B0 H0 B H : Hp} {σ : L2.St} {ρ : List Sl} (s : SInv w B0 H0 B H σ ρ) (i : Nat) {ds : List D} {p : Addr} {xs : List V} (np : H p = none) (hx : DpAll w.K B xs ds) : SInv w B0 H0 B (upd H p (.lst xs)) (σ.set i (some (.ref p))) (ρ.set i (.own ds)) := by
  have nB := s.rel.sub.free np
  have nH0 := s.ext.hh.free np
  have hlen := s.rel.len
  refine ⟨⟨s.ext.bb, s.ext.hh.trans (upd_free np), s.ext.bh.trans (upd_free np), s.ext.nb⟩, ⟨by rw [List.length_set, List.length_set]; exact hlen, s.rel.sub.trans (upd_free np), fun j d h => ?_, fun j ds' h => ?_, fun j k ds1 ds2 b h1 h2 h3 h4 => ?_, fun j c f h => ?_⟩, fun j ds' b h1 h2 => ?_⟩
  · rcases get_set h with ⟨_, e⟩ | ⟨n, h⟩
    · cases e
    · obtain ⟨v, h1, h2⟩ := s.rel.dat j d h
      exact ⟨v, by rw [List.getElem?_set_ne (Ne.symm n)]; exact h1, h2⟩
  · rcases get_set h with ⟨rfl, e⟩ | ⟨n, h⟩
    · cases e
      have hl := (List.getElem?_eq_some_iff.mp h).1
      rw [List.length_set] at hl
      exact ⟨p, xs, by rw [List.getElem?_set_self (by omega)], upd_same, nB, hx⟩
    · obtain ⟨b, zs, h1, h2, h3, h4⟩ := s.rel.own j ds' h
      exact ⟨b, zs, by rw [List.getElem?_set_ne (Ne.symm n)]; exact h1, by rw [upd_ne (ne_of_none h2 np)]; exact h2, h3, h4⟩
  · have key : ∀ {j : Nat} {d1 : List D} {b : Addr}, (ρ.set i (.own ds))[j]? = some (.own d1) → (σ.set i (some (.ref p)))[j]? = some (some (.ref b)) → (j = i ∧ b = p) ∨ (j ≠ i ∧ b ≠ p ∧ ρ[j]? = some (.own d1) ∧ σ[j]? = some (some (.ref b))) := fun {j d1 b} h1 h2 => by
      rcases get_set h1 with ⟨rfl, e⟩ | ⟨n, h1⟩
      · have hl := (List.getElem?_eq_some_iff.mp h2).1
        rw [List.length_set] at hl
        rw [List.getElem?_set_self hl] at h2
        cases h2
        exact .inl ⟨rfl, rfl⟩
      · rw [List.getElem?_set_ne (Ne.symm n)] at h2
        obtain ⟨b', zs, h3, h4, _⟩ := s.rel.own j d1 h1
        rw [h2] at h3
        cases h3
        exact .inr ⟨n, ne_of_none h4 np, h1, h2⟩
    rcases key h1 h3 with ⟨e1, e2⟩ | ⟨n1, n2, e1, e2⟩
    · rcases key h2 h4 with ⟨e3, e4⟩ | ⟨n3, n4, _, _⟩
      · rw [e1, e3]
      · exact absurd e2 n4
    · rcases key h2 h4 with ⟨e3, e4⟩ | ⟨n3, n4, e3, e4⟩
      · exact absurd e4 n2
      · exact s.rel.sep j k ds1 ds2 b e1 e3 e2 e4
  · rcases get_set h with ⟨_, e⟩ | ⟨n, h⟩
    · cases e
    · obtain ⟨a, dx, nm, h1, h2, h3⟩ := s.rel.exc j c f h
      exact ⟨a, dx, nm, h1, by rw [List.getElem?_set_ne (Ne.symm n)]; exact h2, h3⟩
  · rcases get_set h1 with ⟨rfl, e⟩ | ⟨n, h1⟩
    · have hl := (List.getElem?_eq_some_iff.mp h2).1
      rw [List.length_set] at hl
      rw [List.getElem?_set_self hl] at h2
      cases h2
      exact nH0
    · rw [List.getElem?_set_ne (Ne.symm n)] at h2
      exact s.fr j ds' b h1 h2
/-- a list of one's own is never changed again -/
theorem SInv.fz {w : Wd} {B0 H0 B H : Hp} {σ : L2.St} {ρ : List Sl} (s : SInv w B0 H0 B H σ ρ) {i : Nat} {ds : List D} (ho : ρ[i]? = some (.own ds)) : ∃ B', SInv w B0 H0 B' H σ (setS ρ i (.list ds)) := by
  obtain ⟨a, xs, hσ, hH, hB, hx⟩ := s.rel.own i ds ho
  have f0 := s.fr i ds a ho hσ
  have sB : Same B (upd B a (.lst xs)) := upd_free hB
  refine ⟨upd B a (.lst xs), ⟨s.ext.bb.trans sB, s.ext.hh, fun b o e => ?_, fun b h n => ?_⟩, ⟨by show σ.length = (ρ.set i _).length; rw [List.length_set]; exact s.rel.len, fun b o e => ?_, fun j d h => ?_, fun j ds' h => ?_, fun j k ds1 ds2 b h1 h2 h3 h4 => ?_, fun j c f h => ?_⟩, fun j ds' b h1 h2 => ?_⟩
  · by_cases hb : b = a
    · rw [hb, upd_same] at e
      rw [hb, hH]; exact e
    · rw [upd_ne hb] at e
      exact s.ext.bh b o e
  · have hb : b ≠ a := fun z => h (z ▸ f0)
    rw [upd_ne hb]
    exact s.ext.nb b h n
  · by_cases hb : b = a
    · rw [hb, upd_same] at e
      rw [hb, hH]; exact e
    · rw [upd_ne hb] at e
      exact s.rel.sub b o e
  · rcases get_set h with ⟨rfl, e⟩ | ⟨_, h⟩
    · cases e
      exact ⟨.ref a, hσ, .lst (.inl (.inl upd_same)) (hx.same sB)⟩
    · obtain ⟨v, h1, h2⟩ := s.rel.dat j d h
      exact ⟨v, h1, h2.same sB⟩
  · rcases get_set h with ⟨_, e⟩ | ⟨n, h⟩
    · cases e
    · obtain ⟨b, zs, h1, h2, h3, h4⟩ := s.rel.own j ds' h
      have nb : b ≠ a := fun z => by
        subst z
        exact n (s.rel.sep j i ds' ds b h ho h1 hσ)
      exact ⟨b, zs, h1, h2, by rw [upd_ne nb]; exact h3, h4.same sB⟩
  · rcases get_set h1 with ⟨_, e⟩ | ⟨_, h1⟩
    · cases e
    · rcases get_set h2 with ⟨_, e⟩ | ⟨_, h2⟩
      · cases e
      · exact s.rel.sep j k ds1 ds2 b h1 h2 h3 h4
  · rcases get_set h with ⟨_, e⟩ | ⟨_, h⟩
    · cases e
    · obtain ⟨b, dx, nm, h1, h2, h3⟩ := s.rel.exc j c f h
      refine ⟨b, dx, nm, h1, h2, fun d hd => ?_⟩
      obtain ⟨x, v, h4, h5, h6⟩ := h3 d hd
      exact ⟨x, v, h4, sB _ _ h5, h6.same sB⟩
  · rcases get_set h1 with ⟨_, e⟩ | ⟨_, h1⟩
    · cases e
    · exact s.fr j ds' b h1 h2

def EvS (w : Wd) (B0 H0 : Hp) (D : Ends) : O → Prop
  | .nx ρ => ∀ B H σ, SInv w B0 H0 B H σ ρ → D.nx σ H
  | .rt d => ∀ B H v, Ext B0 H0 B H → Dp w.K B v d → D.rt v H
  | .bk ρ => ∀ B H σ, SInv w B0 H0 B H σ ρ → D.bk σ H
  | .ct ρ => ∀ B H σ, SInv w B0 H0 B H σ ρ → D.ct σ H
  | .ex c f ρ => ∀ cls dx B H σ, SInv w B0 H0 B H σ ρ → ExcAt w.K w.ct B c f cls dx → w.W cls dx σ H
  | .stuck => False
def tS (w : Wd) (m : List Sl → O) : TS := fun D σ H => ∃ B0 H0 B ρ, SInv w B0 H0 B H σ ρ ∧ EvS w B0 H0 D (m ρ)

/-- a piece, then on -/
theorem sR {w : Wd} {B0 H0 B H : Hp} {σ : L2.St} {ρ : List Sl} {m : M D} {k : D → O} {E : Ends} (s : SInv w B0 H0 B H σ ρ) (h : EvS w B0 H0 E (onR (m ρ) ρ k)) :
    tE w m σ H (fun v H' => ∃ d B', m ρ = .ok d ∧ Ext B H B' H' ∧ SInv w B0 H0 B' H' σ ρ ∧ Dp w.K B' v d ∧ EvS w B0 H0 E (k d)) := by
  refine ⟨B, ρ, s.rel, ?_⟩
  cases e : m ρ with
  | ok d =>
    rw [e] at h
    exact fun v B' H' x hd => ⟨d, B', rfl, x, s.grow x, hd, h⟩
  | exc c f =>
    rw [e] at h
    exact fun cls dx B' H' x hx => h cls dx B' H' σ (s.grow x) hx
  | stuck => rw [e] at h; exact h
theorem sRT {w : Wd} {B0 H0 B H : Hp} {σ : L2.St} {ρ : List Sl} {m : M Bool} {k : Bool → O} {E : Ends} (s : SInv w B0 H0 B H σ ρ) (h : EvS w B0 H0 E (onR (m ρ) ρ k)) :
    tT w m σ H (fun b H' => ∃ B', m ρ = .ok b ∧ Ext B H B' H' ∧ SInv w B0 H0 B' H' σ ρ ∧ EvS w B0 H0 E (k b)) := by
  refine ⟨B, ρ, s.rel, ?_⟩
  cases e : m ρ with
  | ok d =>
    rw [e] at h
    exact fun B' H' x => ⟨B', rfl, x, s.grow x, h⟩
  | exc c f =>
    rw [e] at h
    exact fun cls dx B' H' x hx => h cls dx B' H' σ (s.grow x) hx
  | stuck => rw [e] at h; exact h
theorem sRA {w : Wd} {B0 H0 B H : Hp} {σ : L2.St} {ρ : List Sl} {m : M (List D)} {k : List D → O} {E : Ends} (s : SInv w B0 H0 B H σ ρ) (h : EvS w B0 H0 E (onR (m ρ) ρ k)) :
    tA w m σ H (fun vs H' => ∃ ds B', m ρ = .ok ds ∧ Ext B H B' H' ∧ SInv w B0 H0 B' H' σ ρ ∧ DpAll w.K B' vs ds ∧ EvS w B0 H0 E (k ds)) := by
  refine ⟨B, ρ, s.rel, ?_⟩
  cases e : m ρ with
  | ok d =>
    rw [e] at h
    exact fun v B' H' x hd => ⟨d, B', rfl, x, s.grow x, hd, h⟩
  | exc c f =>
    rw [e] at h
    exact fun cls dx B' H' x hx => h cls dx B' H' σ (s.grow x) hx
  | stuck => rw [e] at h; exact h
theorem sRI {w : Wd} {B0 H0 B H : Hp} {σ : L2.St} {ρ : List Sl} {m : M (List D)} {k : List D → O} {E : Ends} (s : SInv w B0 H0 B H σ ρ) (h : EvS w B0 H0 E (onR (m ρ) ρ k)) :
    tI w m σ H (fun J H' => ∃ ds B', m ρ = .ok ds ∧ SInv w B0 H0 B' H' σ ρ ∧ Wk w.K J ds B' ∧ EvS w B0 H0 E (k ds)) := by
  refine ⟨B, ρ, s.rel, ?_⟩
  cases e : m ρ with
  | ok d =>
    rw [e] at h
    exact fun J B' H' x wk => ⟨d, B', rfl, s.grow x, wk, h⟩
  | exc c f =>
    rw [e] at h
    exact fun cls dx B' H' x hx => h cls dx B' H' σ (s.grow x) hx
  | stuck => rw [e] at h; exact h
end CH

/-! CH 14: statements do what they come to. -/
namespace CH
open PySem PySem.Spec PyProof.Rows L2

/-! ### list.extend by a list that is not of one's own -/
theorem list_extendW (l : Addr) (items : Array Value) (n : Nat) (b : Addr) (items2 : Array Value) (n2 : Nat) (dd2 : Option Addr) (sl2 : Array (Option Value)) (hc0 : ¬(!items.isEmpty && Builtin.List.listTooLong (items.size + items2.size)) = true) (hc1 : items.size ≤ sizeLine) (hs2 : items.size + items2.size ≤ sizeLine + 1) :
    Meets (Builtin.«list.extend» ⟨[.ref l, .ref b], []⟩) (fun _ R s => s.heap.get? l = some { cls := .type "list", dict := none, data := .seq items n, slots := #[] } ∧ s.heap.get? b = some { cls := .type "list", dict := dd2, data := .seq items2 n2, slots := sl2 } ∧ R (.ok (.ret Value.none)) { s with heap := s.heap.update l (Obj.mapSeq fun x => x ++ items2), toks := s.toks }) :=
  .of_wp fun prog w A R s h => by
    obtain ⟨hp, g, d, tk, os⟩ := s; obtain ⟨hl, hb, h⟩ := h; have f1 := AutoSeq1.idx_int; have f2 := AutoSeq1.sub_tuple_tuple; have f3 := AutoSeq1.sub_list_list; have f4 := AutoSeq1.sub_tuple_list; have f5 := AutoSeq1.sub_list_tuple;
    have hz' : (items ++ items2).size ≤ sizeLine + 1 := by rw [Array.size_append]; exact hs2
    wp_walk using (wpAny_updateSeq hl rfl (hz := hc1) (_hz' := hz')), AutoSeq1.wpAny_loadPart' hl, AutoSeq1.wpAny_loadPart' hb
    exact ⟨_, rfl, h⟩
def rExtW (K : PySem.W.Frag) : V → List V → Hp → VK → Prop := fun x vs H Q => ∃ l b xs zs, x = .ref l ∧ vs = [.ref b] ∧ H l = some (.lst xs) ∧ SqL K H b zs ∧ xs.length + zs.length ≤ sizeLine ∧ Q .non (upd H l (.lst (xs ++ zs)))
theorem mt_extW {X : Cx} : MtM X "list.extend" (rExtW X.K) := by
  intro pins s σ H x vs v us Q I rx rv h
  obtain ⟨l, b, xs, zs, rfl, rfl, hH, hB, hz, q⟩ := h
  cases rx
  obtain ⟨u, rfl, ru⟩ := rv.one
  cases ru
  obtain ⟨z, its, n, r, hl, e⟩ := I.lstM hH
  obtain ⟨its2, r2, ⟨⟨c2, d2, dt2, sl2⟩, n2, e2, hc2, _, hd2⟩, z2⟩ := I.list hB
  simp only at hc2 hd2
  subst hc2 hd2
  have hl2 := r2.length
  have hsz : its.toArray.size + its2.toArray.size ≤ sizeLine := by rw [List.size_toArray, List.size_toArray]; omega
  have hlong : ¬ (!its.toArray.isEmpty && Builtin.List.listTooLong (its.toArray.size + its2.toArray.size)) = true := by
    rw [notLongL hsz, Bool.and_false]
    exact Bool.false_ne_true
  refine call_meets F.slot_list_extend ⟨_, e, rfl⟩ F.entry_list_extend (F.args_list_extend_2 _ _)
    (list_extendW l its.toArray n b its2.toArray n2 d2 sl2 hlong (by rw [List.size_toArray]; omega) (by omega)) ⟨e, e2, ?_⟩
  refine ⟨.non, _, I.lset (its' := its ++ its2) hH e (by simp) (r.append r2) ?_, rfl, q⟩
  rw [List.length_append]
  omega

/-! ### the context of statements -/
structure ExF (X : Cx) (ct : Nat → Option (Addr × Str)) (c : Nat) (xi : XInfo) : Prop where
  at_ : ∃ (C : Addr) (nm : Str), ct c = some (C, nm) ∧ X.mg xi.name = some (.ref C) ∧ PySem.W.keepIn X.K (.ref C) = true ∧ Raises X (.ref C) ∧
    (xi.field = none → ∃ B newId initId bmB, ExcBaseFacts B newId initId bmB ∧ PySem.W.excIn X.K C bmB newId = true)
structure CtxS (I : Info) (w : Wd) (X : Cx) : Prop where
  calm : X.calm = true
  pass : PassesOwn (model X.prog X.w) X.A X.env X.xe
  kind : X.env.scope.kind = .function
  exc : ∀ (c : Nat) (xi : XInfo), I.exs[c]? = some xi → ExF X w.ct c xi

section
variable {I : Info} {sc : Scope} {N : List Str} {k : Nat} {F : FT} {w : Wd} {X : Cx}
theorem CtxOk.isL (C : CtxOk I sc N k F w X) {x : Str} (h : isLoc sc x = true) : X.env.scope.names.lookup x = some .local := by
  unfold isLoc at h
  split at h
  · rename_i e
    exact C.sc1 x _ e (by decide)
  · cases h
theorem CtxOk.at (C : CtxOk I sc N k F w X) {i : Nat} {x : Str} (h : N[i]? = some x) : X.N[i]? = some x := by rw [C.hN]; exact h
theorem CtxOk.ndX (C : CtxOk I sc N k F w X) : X.N.Nodup := by rw [C.hN]; exact C.nd
end

/-! ### stores of pairs -/
theorem star_none : ∀ es : Es, (es.py.any fun | .Starred .. => true | _ => false) = false
  | .nil => rfl
  | .cons a r => by
    rw [Es.py, List.any_cons, star_none r, Bool.or_false]
    cases a <;> rfl
theorem blk_fn {env : Env} (h : env.scope.kind = .function) : env.blockKind = .function := by
  unfold Env.blockKind
  rw [h]; rfl
theorem kind_of {env : Env} {x : Str} (h : env.scope.names.lookup x = some .local) : (env.kindOf x == some .local) = true := by
  have e : env.kindOf x = some .local := h
  rw [e]; rfl
theorem sw_par {env : Env} (hk : env.scope.kind = .function) {x y : Str} {px py pt pv : Pos} {kt kv : Nat} {a b : E} (hx : env.scope.names.lookup x = some .local) (hy : env.scope.names.lookup y = some .local) (hn : x ≠ y) (hl : (py.line == px.line) = true)
    (h1 : [a.py, b.py].all (foldedForSure 8) = false) (h2 : [a.py, b.py].all (constantsAlone 8) = false) :
    swappedStores [.Tuple [.Name x px, .Name y py] kt pt] (.Tuple [a.py, b.py] kv pv) env = pure (some [x, y]) := by
  have hs := star_none (.cons a (.cons b .nil))
  have hs : ([a.py, b.py].any fun | .Starred .. => true | _ => false) = false := hs
  have hb := blk_fn hk
  unfold swappedStores
  simp only [List.length_cons, List.length_nil, hb, hs, List.filterMap_cons, List.filterMap_nil, kind_of hx, kind_of hy, List.head?_cons, Option.map_some, Option.getD_some, Expr.pos, hl, beq_self_eq_true, h1, h2]
  have e : ([x, y] : List Str).eraseDups = [x, y] := by
    rw [List.eraseDups_cons]
    have : (y == x) = false := by simpa using fun z => hn z.symm
    simp [this]
    rw [List.eraseDups_cons]; simp
  simp [e]
  intro h
  rcases h with h | h
  · cases a <;> cases h
  · cases b <;> cases h
theorem sw_par3 {env : Env} (hk : env.scope.kind = .function) {x y z : Str} {px py pz pt pv : Pos} {kt kv : Nat} {a b c : E} (hx : env.scope.names.lookup x = some .local) (hy : env.scope.names.lookup y = some .local) (hz : env.scope.names.lookup z = some .local)
    (hn : x ≠ y) (hn2 : x ≠ z) (hn3 : y ≠ z) (hl : (py.line == px.line) = true) (hl2 : (pz.line == px.line) = true)
    (h1 : [a.py, b.py, c.py].all (foldedForSure 8) = false) (h2 : [a.py, b.py, c.py].all (constantsAlone 8) = false) :
    swappedStores [.Tuple [.Name x px, .Name y py, .Name z pz] kt pt] (.Tuple [a.py, b.py, c.py] kv pv) env = pure (some [x, y, z]) := by
  have hs := star_none (.cons a (.cons b (.cons c .nil)))
  have hs : ([a.py, b.py, c.py].any fun | .Starred .. => true | _ => false) = false := hs
  have hb := blk_fn hk
  unfold swappedStores
  simp only [List.length_cons, List.length_nil, hb, hs, List.filterMap_cons, List.filterMap_nil, kind_of hx, kind_of hy, kind_of hz, List.head?_cons, Option.map_some, Option.getD_some, Expr.pos, hl, hl2, beq_self_eq_true, h1, h2]
  have e : ([x, y, z] : List Str).eraseDups = [x, y, z] := by
    have e1 : (y == x) = false := by simpa using fun z => hn z.symm
    have e2 : (z == x) = false := by simpa using fun z => hn2 z.symm
    have e3 : (z == y) = false := by simpa using fun z => hn3 z.symm
    rw [List.eraseDups_cons]
    simp [e1, e2]
    rw [List.eraseDups_cons]
    simp [e3]
    rw [List.eraseDups_cons]; simp
  simp [e]
  intro h
  rcases h with h | h | h
  · cases a <;> cases h
  · cases b <;> cases h
  · cases c <;> cases h
end CH

/-! CH 15: every statement does what it comes to. -/
namespace CH
open PySem PySem.Spec PyProof.Rows L2

section
variable {w : Wd} {B0 H0 B H B2 H2 : Hp} {σ σ2 : L2.St} {ρ ρ2 : List Sl}
theorem SInv.base (s : SInv w B0 H0 B H σ ρ) : SInv w B H0 B H σ ρ := ⟨⟨Same.refl _, s.ext.hh, s.ext.bh, fun _ _ h => h⟩, s.rel, s.fr⟩
theorem SInv.rebase (s : SInv w B0 H0 B H σ ρ) (t : SInv w B H0 B2 H2 σ2 ρ2) : SInv w B0 H0 B2 H2 σ2 ρ2 := ⟨⟨s.ext.bb.trans t.ext.bb, t.ext.hh, t.ext.bh, fun a h n => t.ext.nb a h (s.ext.nb a h n)⟩, t.rel, t.fr⟩
theorem EvS.base {D : Ends} {o : O} (s : SInv w B0 H0 B H σ ρ) (h : EvS w B0 H0 D o) : EvS w B H0 D o := by
  cases o with
  | nx ρ => exact fun B H σ t => h B H σ (s.rebase t)
  | rt d => exact fun B H v e hd => h B H v ⟨s.ext.bb.trans e.bb, e.hh, e.bh, fun a h n => e.nb a h (s.ext.nb a h n)⟩ hd
  | bk ρ => exact fun B H σ t => h B H σ (s.rebase t)
  | ct ρ => exact fun B H σ t => h B H σ (s.rebase t)
  | ex c f ρ => exact fun cls dx B H σ t => h cls dx B H σ (s.rebase t)
  | stuck => exact h
theorem set_two {i j k : Nat} {x y : Str} {p q r : Pos} {d : D} {ρ' : List Sl} (e : (Tg.two i x p j y q k r).set d ρ = some ρ') : ∃ d1 d2, d = .tuple [d1, d2] ∧ ρ' = setS (setS ρ i d1) j d2 := by
  cases d with
  | tuple ds =>
    match ds, e with
    | [d1, d2], e => cases e; exact ⟨d1, d2, rfl, rfl⟩
    | [], e => cases e
    | [_], e => cases e
    | _ :: _ :: _ :: _, e => cases e
  | _ => cases e
/-- a target is written -/
theorem SInv.tg {tg : Tg} {d : D} {ρ' : List Sl} {σ' : L2.St} (s : SInv w B0 H0 B H σ ρ) (e : tg.set d ρ = some ρ') (r : Rel w.K w.sx B H σ' ρ') (hw : wipe σ' tg.ixs = wipe σ tg.ixs) : SInv w B0 H0 B H σ' ρ' := by
  refine ⟨s.ext, r, fun i ds a h1 h2 => ?_⟩
  have key : i ∉ tg.ixs ∧ ρ[i]? = some (.own ds) := by
    cases tg with
    | one j x p =>
      cases e
      rcases get_set h1 with ⟨_, e⟩ | ⟨n, h1⟩
      · cases e
      · exact ⟨by simpa [Tg.ixs] using n, h1⟩
    | two j x p l y q kk t =>
      obtain ⟨d1, d2, rfl, rfl⟩ := set_two e
      rcases get_set h1 with ⟨_, e⟩ | ⟨n, h1⟩
      · cases e
      · rcases get_set h1 with ⟨_, e⟩ | ⟨n', h1⟩
        · cases e
        · exact ⟨by simp [Tg.ixs]; exact ⟨n', n⟩, h1⟩
  have z : (wipe σ' tg.ixs)[i]? = σ'[i]? := wipe_out key.1
  have z2 : (wipe σ tg.ixs)[i]? = σ[i]? := wipe_out key.1
  rw [hw, z2] at z
  rw [← z] at h2
  exact s.fr i ds a key.2 h2
end
section
variable {I : Info} {sc : Scope} {N : List Str} {k : Nat} {F : FT} {w : Wd} {X : Cx}
/-- the reading of a for -/
theorem tIi {m : M (List D)} {σ : L2.St} {H : Hp} {Q Q' : L2.It → Hp → Prop} (h : tI w m σ H Q) (i : ∀ v H', Q v H' → Q' v H') : tI w m σ H Q' := by
  obtain ⟨B, ρ, r, e⟩ := h
  refine ⟨B, ρ, r, ?_⟩
  cases q : m ρ with
  | ok d => rw [q] at e; exact fun v B' H' x hd => i _ _ (e v B' H' x hd)
  | exc c f => rw [q] at e; exact e
  | stuck => rw [q] at e; exact e
theorem for_read {w : Wd} {tg : Tg} {mi : M (List D)} {tb : TS} {body : List Sl → O} (hb : ∀ E σ H, tS w body E σ H → tb E σ H) {E : Ends} {σ : L2.St} {H : Hp}
    (h : tS w (fun ρ => onR (mi ρ) ρ fun ds => forS (fun d ρ => tg.set d ρ) body ds ρ) E σ H) : tFor (tI w mi) (tG w tg) tb E σ H := by
  obtain ⟨B0, H0, B, ρ, s, q⟩ := h
  refine tIi (sRI s q) fun J H' ⟨ds, B', e1, s1, wk, q1⟩ => ?_
  have q1 := q1.base s1
  refine ⟨fun i m σ H => m = ds.length - i ∧ i ≤ ds.length ∧ ∃ Bi ρi, SInv w B' H0 Bi H σ ρi ∧ EvS w B' H0 E (forS (fun d ρ => tg.set d ρ) body (ds.drop i) ρi), ⟨ds.length, by simp, Nat.zero_le _, B', ρ, s1.base, by rw [List.drop_zero]; exact q1⟩, ?_⟩
  rintro i m σ2 H2 ⟨rfl, hi, Bi, ρi, si, qi⟩
  have wki := wk.at_ i Bi H2 si.ext.bb si.rel.sub
  by_cases hlt : i < ds.length
  · obtain ⟨d, hd⟩ : ∃ d, ds[i]? = some d := ⟨ds[i], List.getElem?_eq_getElem hlt⟩
    obtain ⟨go, yl⟩ := wki.2 d hd
    refine .inr ⟨go, fun σ' H' => ∃ Bi ρi, SInv w B' H0 Bi H' σ' ρi ∧ EvS w B' H0 E (forS (fun d ρ => tg.set d ρ) body (ds.drop (i + 1)) ρi), fun σ' H' hn => ⟨ds.length - (i + 1), by omega, rfl, hlt, hn⟩, fun x H3 hy => ?_⟩
    obtain ⟨B3, x3, hd3⟩ := yl x H3 hy
    have s3 := si.grow x3
    have edrop : ds.drop i = d :: ds.drop (i + 1) := by
      have e1 := List.drop_eq_getElem_cons hlt
      rw [List.getElem?_eq_getElem hlt] at hd
      cases hd
      exact e1
    rw [edrop, forS] at qi
    cases eb : tg.set d ρi with
    | none => rw [eb] at qi; exact qi.elim
    | some ρ' =>
      rw [eb] at qi
      dsimp only at qi
      refine ⟨B3, ρi, d, ρ', s3.rel, hd3, eb, fun σ' r' hw => hb _ _ _ ⟨B', H0, B3, ρ', s3.tg eb r' (hw _ fun _ h => h), ?_⟩⟩
      cases eo : body ρ' with
      | nx ρ2 => rw [eo] at qi; exact fun B H σ t => ⟨B, ρ2, t, qi⟩
      | ct ρ2 => rw [eo] at qi; exact fun B H σ t => ⟨B, ρ2, t, qi⟩
      | bk ρ2 => rw [eo] at qi; exact qi
      | rt d => rw [eo] at qi; exact qi
      | ex c f ρ2 => rw [eo] at qi; exact qi
      | stuck => rw [eo] at qi; exact qi
  · have e : i = ds.length := by omega
    subst e
    rw [List.drop_length, forS] at qi
    exact .inl ⟨wki.1 (Nat.le_refl _), qi Bi H2 σ2 si⟩
/-- the reading of a while -/
theorem while_read {w : Wd} {tc : TT} {mt : M Bool} {tb : TS} {body : List Sl → O} (hc : ∀ σ H Q, tT w mt σ H Q → tc σ H Q) (hb : ∀ E σ H, tS w body E σ H → tb E σ H) {E : Ends} {σ : L2.St} {H : Hp} {n : Nat}
    (h : tS w (fun ρ => whileS mt body n ρ) E σ H) : tWhile tc tb E σ H := by
  obtain ⟨B0, H0, B, ρ, s, q⟩ := h
  refine ⟨fun m σ H => ∃ B ρ, SInv w B0 H0 B H σ ρ ∧ EvS w B0 H0 E (whileS mt body m ρ), ⟨n, B, ρ, s, q⟩, ?_⟩
  rintro m σ2 H2 ⟨B2, ρ2, s2, q2⟩
  cases m with
  | zero => exact q2.elim
  | succ m =>
    rw [whileS] at q2
    refine hc _ _ _ (tTi (sRT s2 q2) fun b H3 ⟨B3, e3, x3, s3, q3⟩ => ?_)
    cases b with
    | false =>
      rw [if_neg Bool.false_ne_true] at q3 ⊢
      exact q3 B3 H3 σ2 s3
    | true =>
      rw [if_pos rfl] at q3 ⊢
      refine ⟨fun σ' H' => ∃ B ρ, SInv w B0 H0 B H' σ' ρ ∧ EvS w B0 H0 E (whileS mt body m ρ), fun σ' H' hn => ⟨m, Nat.lt_succ_self _, hn⟩, hb _ _ _ ⟨B0, H0, B3, ρ2, s3, ?_⟩⟩
      cases eo : body ρ2 with
      | nx ρ2 => rw [eo] at q3; exact fun B H σ t => ⟨B, ρ2, t, q3⟩
      | ct ρ2 => rw [eo] at q3; exact fun B H σ t => ⟨B, ρ2, t, q3⟩
      | bk ρ2 => rw [eo] at q3; exact q3
      | rt d => rw [eo] at q3; exact q3
      | ex c f ρ2 => rw [eo] at q3; exact q3
      | stuck => rw [eo] at q3; exact q3

theorem tyV_own {K : PySem.W.Frag} {H : Hp} {a : Addr} {xs : List V} (h : H a = some (.lst xs)) : tyV K "list" (.ref a) H := Or.inl ⟨rfl, _, Or.inl (Or.inl h)⟩
end
end CH

/-! CH 16: every body does what it comes to. -/
namespace CH
open PySem PySem.Spec PyProof.Rows L2

section
variable {I : Info} {sc : Scope} {N : List Str} {k : Nat} {F : FT} {w : Wd} {X : Cx}
theorem s_app (C : CtxOk I sc N k F w X) {i : Nat} {x : Str} {e : E} {px pa pc p : Pos} (h : (S.app i x e px pa pc p).wf I N sc = true) (hc : X.calm = true) : PS X (S.app i x e px pa pc p).py (tS w (exs I F (.app i x e px pa pc p))) := by
  simp only [S.wf, Bool.and_eq_true, decide_eq_true_eq] at h
  obtain ⟨⟨⟨⟨h1, h2⟩, h3⟩, h4⟩, h5⟩ := h
  have he := (snd e C (by rw [hc]; exact h4)).v
  refine PS.imp (ps_expr (pe_bm PySem.F.plainAttrs_list PySem.F.slot_list_append PySem.F.type_list_append mt_append (pe_var (C.at h1) (C.vis h2) (okNm1 h3) (okNm2 h3)) (pa_cons he pa_nil (star_py e [] X.env)) (hbase := base_name _ _ _ _) (hfew := by rw [star_py]; rfl) (hline := h5) (hs := star_py e [] X.env))) fun E σ H ⟨B0, H0, B, ρ, s, q⟩ => ?_
  unfold exs at q
  split at q
  · rename_i ds ho
    obtain ⟨a, xs, hσ, hH, hB, hx⟩ := s.rel.own i ds ho
    refine ⟨.ref a, hσ, tyV_own hH, ?_⟩
    refine tEi (sR s q) fun v H' ⟨d, B', e1, x1, s1, hd, q1⟩ => ?_
    split at q1
    · rename_i hlt
      obtain ⟨a', xs', hσ', hH', hB', hx'⟩ := s1.rel.own i ds ho
      rw [hσ] at hσ'
      cases hσ'
      have ll := lim_line
      have hln := hx'.length
      exact ⟨a, xs', v, rfl, rfl, hH', by omega, q1 _ _ _ (s1.mut ho hσ hH' hB' (hx'.append (.cons hd .nil)))⟩
    · exact q1.elim
  · exact q.elim
theorem s_ext (C : CtxOk I sc N k F w X) {i : Nat} {x : Str} {e : E} {px pa pc p : Pos} (h : (S.ext i x e px pa pc p).wf I N sc = true) (hc : X.calm = true) : PS X (S.ext i x e px pa pc p).py (tS w (exs I F (.ext i x e px pa pc p))) := by
  simp only [S.wf, Bool.and_eq_true, decide_eq_true_eq] at h
  obtain ⟨⟨⟨⟨h1, h2⟩, h3⟩, h4⟩, h5⟩ := h
  have he := (snd e C (by rw [hc]; exact h4)).v
  refine PS.imp (ps_expr (pe_bm PySem.F.plainAttrs_list PySem.F.slot_list_extend PySem.F.type_list_extend mt_extW (pe_var (C.at h1) (C.vis h2) (okNm1 h3) (okNm2 h3)) (pa_cons he pa_nil (star_py e [] X.env)) (hbase := base_name _ _ _ _) (hfew := by rw [star_py]; rfl) (hline := h5) (hs := star_py e [] X.env))) fun E σ H ⟨B0, H0, B, ρ, s, q⟩ => ?_
  unfold exs at q
  split at q
  · rename_i ds ho
    obtain ⟨a, xs, hσ, hH, hB, hx⟩ := s.rel.own i ds ho
    refine ⟨.ref a, hσ, tyV_own hH, ?_⟩
    refine tEi (sR s q) fun v H' ⟨d, B', e1, x1, s1, hd, q1⟩ => ?_
    split at q1
    · rename_i es
      split at q1
      · rename_i hlt
        obtain ⟨a', xs', hσ', hH', hB', hx'⟩ := s1.rel.own i ds ho
        rw [hσ] at hσ'
        cases hσ'
        have ll := lim_line
        have hln := hx'.length
        cases hd with
        | lst hq hr =>
          have hln2 := hr.length
          exact ⟨a, _, xs', _, rfl, rfl, hH', C.hK ▸ s1.rel.sub.seq hq, by omega, q1 _ _ _ (s1.mut ho hσ hH' hB' (hx'.append hr))⟩
      · exact q1.elim
    · exact q1.elim
  · exact q.elim
theorem s_setC (C : CtxOk I sc N k F w X) (T : CtxS I w X) {i : Nat} {x : Str} {elt : E} {tg : Tg} {it : It} {ifs : Es} {sc' : Scope} {own : List (Str × Nat)} {pc px p : Pos} (h : (S.set i x (.comp elt tg it ifs sc' own pc) px p).wf I N sc = true) :
    PS X (S.set i x (.comp elt tg it ifs sc' own pc) px p).py (tS w (exs I F (.set i x (.comp elt tg it ifs sc' own pc) px p))) := by
  simp only [S.wf, Bool.and_eq_true, decide_eq_true_eq, E.wf, compOk] at h
  obtain ⟨⟨⟨h1, h2⟩, ⟨⟨⟨⟨⟨⟨⟨⟨_, hit⟩, htw⟩, hb⟩, htg⟩, hix⟩, hifs⟩, hle⟩, hel⟩⟩, ⟨hl, hln⟩, hun⟩ := h
  have hc := T.calm
  have hi := sndi it tg C hc (by rw [hc]; exact hit) htw
  have hix' : ∀ i ∈ tg.ixs, i ∈ own.map (·.2) := fun i hi => by simpa using List.all_eq_true.mp hix i hi
  have hlx := C.isL hl
  refine PS.imp (ps_setLc (te := tE w.cold (ev I F elt).v) (tt := tT w.cold (evs I F ifs).allT) hc C.ndX (C.at h1) hlx (sw_true T.kind hlx hln (by simpa using hun)) hi (C.blkOk hb) (fun s H A cl fp => p_tg (C.blk sc' s H A cl fp) hc htg)
    (fun s H A cl fp => (snds ifs (C.blk sc' s H A cl fp) (by show ifs.wf I N sc' X.calm = true; rw [hc]; exact hifs)).all hle) (fun s H A cl fp => (snd elt (C.blk sc' s H A cl fp) (by show elt.wf I N sc' X.calm = true; rw [hc]; exact hel)).v) (fun x => fold_it it X.env x)) fun E σ H ⟨B0, H0, B, ρ, s, q⟩ => ?_
  refine comp_read hix' ?_
  refine tEi (sR (m := (ev I F (.comp elt tg it ifs sc' own pc)).v) s q) fun v H' ⟨d, B', e1, x1, s1, hd, q1⟩ => ?_
  exact q1 _ _ _ (s1.setD i hd)
theorem s_set (C : CtxOk I sc N k F w X) (T : CtxS I w X) {i : Nat} {x : Str} {e : E} {px p : Pos} (h : (S.set i x e px p).wf I N sc = true) : PS X (S.set i x e px p).py (tS w (exs I F (.set i x e px p))) := by
  have key : isComp e = false → PS X (S.set i x e px p).py (tS w (exs I F (.set i x e px p))) := fun hn => by
    simp only [S.wf, Bool.and_eq_true, decide_eq_true_eq] at h
    obtain ⟨⟨⟨h1, h2⟩, h3⟩, h4⟩ := h
    refine PS.imp (ps_set C.ndX (C.at h1) (C.loc h2) (snd e C (by rw [T.calm]; exact h3)).v (hs := swap_py hn _ _ _) (hf := C.lfn h2)) fun E σ H ⟨B0, H0, B, ρ, s, q⟩ => ?_
    exact tEi (sR s q) fun v H' ⟨d, B', e1, x1, s1, hd, q1⟩ => q1 _ _ _ (s1.setD i hd)
  cases e with
  | comp elt tg it ifs sc' own pc => exact s_setC C T h
  | _ => exact key rfl
theorem s_setF (C : CtxOk I sc N k F w X) (T : CtxS I w X) {i : Nat} {x : Str} {e : Fe} {px p : Pos} (h : (S.setF i x e px p).wf I N sc = true) : PS X (S.setF i x e px p).py (tS w (exs I F (.setF i x e px p))) := by
  simp only [S.wf, Bool.and_eq_true, decide_eq_true_eq] at h
  obtain ⟨⟨h1, h2⟩, h3⟩ := h
  cases e with
  | lst es p1 =>
    simp only [Fe.wf, Bool.and_eq_true, decide_eq_true_eq] at h3
    refine PS.imp (ps_set C.ndX (C.at h1) (C.loc h2) (pe_lst (snds es C (by rw [T.calm]; exact h3.1)).l) (hs := by rfl) (hf := C.lfn h2)) fun E σ H ⟨B0, H0, B, ρ, s, q⟩ => ?_
    refine tAi (sRA s q) fun vs H' ⟨ds, B', e1, x1, s1, hd, q1⟩ => ?_
    have hl := hd.length
    have h1 := evs_len I F es ρ ds e1
    exact ⟨by have := sizeLine_eq; omega, fun p np => q1 _ _ _ (s1.new i np hd)⟩
  | ife t a b pa pb p1 =>
    simp only [Fe.wf, Bool.and_eq_true, decide_eq_true_eq] at h3
    obtain ⟨⟨⟨⟨ht, ha⟩, hal⟩, hb⟩, hbl⟩ := h3
    refine PS.imp (ps_set C.ndX (C.at h1) (C.loc h2) (pe_ifExp (snd t C (by rw [T.calm]; exact ht)).t (pe_lst (snds a C (by rw [T.calm]; exact ha)).l) (pe_lst (snds b C (by rw [T.calm]; exact hb)).l)) (hs := by rfl) (hf := C.lfn h2)) fun E σ H ⟨B0, H0, B, ρ, s, q⟩ => ?_
    have q : EvS w B0 H0 E (onR (((ev I F t).t ρ).bind fun k => if k = true then (evs I F a).l ρ else (evs I F b).l ρ) ρ fun ds => .nx (ρ.set i (.own ds))) := q
    have q : EvS w B0 H0 E (onR ((ev I F t).t ρ) ρ fun k => onR (if k = true then (evs I F a).l ρ else (evs I F b).l ρ) ρ fun ds => .nx (ρ.set i (.own ds))) := by
      cases ee : (ev I F t).t ρ <;> rw [ee] at q <;> exact q
    refine tTi (sRT s q) fun k H' ⟨B', e1, x1, s1, q1⟩ => ?_
    cases k with
    | true =>
      rw [if_pos rfl] at q1 ⊢
      refine tAi (sRA s1 q1) fun vs H' ⟨ds, B', e1, x1, s1, hd, q1⟩ => ?_
      have hl := hd.length
      have h1 := evs_len I F a ρ ds e1
      exact ⟨by have := sizeLine_eq; omega, fun p np => q1 _ _ _ (s1.new i np hd)⟩
    | false =>
      rw [if_neg Bool.false_ne_true] at q1 ⊢
      refine tAi (sRA s1 q1) fun vs H' ⟨ds, B', e1, x1, s1, hd, q1⟩ => ?_
      have hl := hd.length
      have h1 := evs_len I F b ρ ds e1
      exact ⟨by have := sizeLine_eq; omega, fun p np => q1 _ _ _ (s1.new i np hd)⟩
end
end CH

/-! CH 17: every body does what it comes to (2). -/
namespace CH
open PySem PySem.Spec PyProof.Rows L2

theorem not_b {b : Bool} (h : (!b) = true) : b = false := by cases b <;> first | rfl | cases h
section
variable {I : Info} {sc : Scope} {N : List Str} {k : Nat} {F : FT} {w : Wd} {X : Cx}
theorem s_par (C : CtxOk I sc N k F w X) (T : CtxS I w X) {i j kt kv : Nat} {x y : Str} {px py pt pv p : Pos} {a b : E} (h : (S.par i x px j y py kt pt a b kv pv p).wf I N sc = true) : PS X (S.par i x px j y py kt pt a b kv pv p).py (tS w (exs I F (.par i x px j y py kt pt a b kv pv p))) := by
  simp only [S.wf, Bool.and_eq_true, decide_eq_true_eq] at h
  obtain ⟨⟨⟨⟨⟨⟨⟨⟨⟨⟨h1, h2⟩, h3⟩, h4⟩, h5⟩, h6⟩, ha⟩, hb⟩, hl⟩, hf⟩, hk⟩ := h
  have hS := snds (.cons a (.cons b .nil)) C (by show (a.wf I N sc X.calm && (b.wf I N sc X.calm && true)) = true; rw [T.calm, ha, hb]; rfl)
  refine PS.imp (ps_par T.calm C.ndX (C.at h1) (C.at h3) h5 (C.isL h2) (C.isL h4) hS.l (sw_par T.kind (C.isL h2) (C.isL h4) h6 hl (not_b hf) (not_b hk)) (by rfl)) fun E σ H ⟨B0, H0, B, ρ, s, q⟩ => ?_
  refine tAi (sRA s q) fun vs H' ⟨ds, B', e1, x1, s1, hd, q1⟩ => ?_
  match ds, hd, q1 with
  | [d, e], hd, q1 =>
    cases hd with
    | cons r1 r2 =>
      cases r2 with
      | cons r2 r3 =>
        cases r3
        exact ⟨_, _, rfl, q1 _ _ _ ((s1.setD i r1).setD j r2)⟩
  | [], _, q1 => exact q1.elim
  | [_], _, q1 => exact q1.elim
  | _ :: _ :: _ :: _, _, q1 => exact q1.elim
theorem s_par3 (C : CtxOk I sc N k F w X) (T : CtxS I w X) {i j l kt kv : Nat} {x y z : Str} {px py pz pt pv p : Pos} {a b c : E} (h : (S.par3 i x px j y py l z pz kt pt a b c kv pv p).wf I N sc = true) :
    PS X (S.par3 i x px j y py l z pz kt pt a b c kv pv p).py (tS w (exs I F (.par3 i x px j y py l z pz kt pt a b c kv pv p))) := by
  simp only [S.wf, Bool.and_eq_true, decide_eq_true_eq] at h
  obtain ⟨⟨⟨⟨⟨⟨⟨⟨⟨⟨⟨⟨⟨⟨⟨⟨⟨⟨h1, h2⟩, h3⟩, h4⟩, h5⟩, h6⟩, n1⟩, n2⟩, n3⟩, m1⟩, m2⟩, m3⟩, ha⟩, hb⟩, hc⟩, hl⟩, hl2⟩, hf⟩, hk⟩ := h
  have hS := snds (.cons a (.cons b (.cons c .nil))) C (by show (a.wf I N sc X.calm && (b.wf I N sc X.calm && (c.wf I N sc X.calm && true))) = true; rw [T.calm, ha, hb, hc]; rfl)
  refine PS.imp (ps_par3 T.calm C.ndX (C.at h1) (C.at h3) (C.at h5) n1 n2 n3 (C.isL h2) (C.isL h4) (C.isL h6) hS.l (sw_par3 T.kind (C.isL h2) (C.isL h4) (C.isL h6) m1 m2 m3 hl hl2 (not_b hf) (not_b hk)) (by rfl)) fun E σ H ⟨B0, H0, B, ρ, s, q⟩ => ?_
  refine tAi (sRA s q) fun vs H' ⟨ds, B', e1, x1, s1, hd, q1⟩ => ?_
  match ds, hd, q1 with
  | [d, e, f], hd, q1 =>
    cases hd with
    | cons r1 r2 =>
      cases r2 with
      | cons r2 r3 =>
        cases r3 with
        | cons r3 r4 =>
          cases r4
          exact ⟨_, _, _, rfl, q1 _ _ _ (((s1.setD i r1).setD j r2).setD l r3)⟩
  | [], _, q1 => exact q1.elim
  | [_], _, q1 => exact q1.elim
  | [_, _], _, q1 => exact q1.elim
  | _ :: _ :: _ :: _ :: _, _, q1 => exact q1.elim
theorem s_unp (C : CtxOk I sc N k F w X) (T : CtxS I w X) {tg : Tg} {e : E} {p : Pos} (h : (S.unp tg e p).wf I N sc = true) : PS X (S.unp tg e p).py (tS w (exs I F (.unp tg e p))) := by
  simp only [S.wf, Bool.and_eq_true] at h
  obtain ⟨⟨⟨⟨h1, h2⟩, h3⟩, h4⟩, h5⟩ := h
  have ht := p_tg C T.calm h1
  cases tg with
  | one i x p => cases h2
  | two i x p1 j y p2 kk r =>
    refine PS.imp (ps_asg (snd e C (by rw [T.calm]; exact h3)).v ht (hs := by have z := swap_py (not_b h5) (some (Tg.two i x p1 j y p2 kk r).py) p.line X.env; unfold swapsWithSole; exact z) (hw := by cases e <;> first | rfl | cases h4) (h1 := by rfl)) fun E σ H ⟨B0, H0, B, ρ, s, q⟩ => ?_
    refine tEi (sR s q) fun v H' ⟨d, B', e1, x1, s1, hd, q1⟩ => ?_
    split at q1
    · rename_i ρ' eb
      exact ⟨B', ρ, d, ρ', s1.rel, hd, eb, fun σ' r' hw => q1 _ _ _ (s1.tg eb r' (hw _ fun _ h => h))⟩
    · exact q1.elim
theorem s_aug (C : CtxOk I sc N k F w X) (T : CtxS I w X) {i : Nat} {x : Str} {e : E} {px p : Pos} (h : (S.aug i x e px p).wf I N sc = true) : PS X (S.aug i x e px p).py (tS w (exs I F (.aug i x e px p))) := by
  simp only [S.wf, Bool.and_eq_true, decide_eq_true_eq] at h
  obtain ⟨⟨⟨h1, h2⟩, h3⟩, h4⟩ := h
  refine PS.imp (ps_aug C.ndX (C.at h1) (C.loc h2) (snd e C (by rw [T.calm]; exact h4)).v ip_add (hf := C.lfn h2)) fun E σ H ⟨B0, H0, B, ρ, s, q⟩ => ?_
  unfold exs at q
  split at q
  · rename_i n ho
    obtain ⟨v, hσ, hv⟩ := s.rel.dat i _ ho
    cases hv
    refine ⟨_, hσ, tEi (sR s q) fun u H' ⟨d, B', e1, x1, s1, hd, q1⟩ => ?_⟩
    split at q1
    · rename_i m
      cases hd
      exact ⟨_, _, rfl, rfl, q1 _ _ _ (s1.setD i (.int _))⟩
    · exact q1.elim
  · exact q.elim
theorem s_rais (C : CtxOk I sc N k F w X) (T : CtxS I w X) {c kk : Nat} {y m : Str} {py pm pc p : Pos} (h : (S.rais c y m kk py pm pc p).wf I N sc = true) : PS X (S.rais c y m kk py pm pc p).py (tS w (exs I F (.rais c y m kk py pm pc p))) := by
  simp only [S.wf, Bool.and_eq_true] at h
  obtain ⟨⟨h1, h2⟩, h3⟩ := h
  cases e : I.exs[c]? with
  | none => rw [e] at h3; cases h3
  | some xi =>
    rw [e] at h3
    simp only [Bool.and_eq_true, decide_eq_true_eq] at h3
    obtain ⟨h3, h4⟩ := h3
    subst h3
    obtain ⟨Cl, nm, e1, e2, e3, e4, e5⟩ := (T.exc c xi e).at_
    obtain ⟨Bs, ni, ii, bm, f1, f2⟩ := e5 (by cases q : xi.field with | none => rfl | some _ => rw [q] at h4; cases h4)
    refine PS.imp (ps_raise T.calm C.tk (pmk_own f1 f2 e2 e3 e4 (C.gx h1) (okNm1 h2))) fun E σ H ⟨B0, H0, B, ρ, s, q⟩ => ?_
    exact q _ _ B H σ s ⟨_, _, e1, rfl, fun _ => rfl, fun d hd => by cases hd⟩

theorem whole_wf {I : Info} {N : List Str} {sc : Scope} {X : Cx} (T : CtxS I w X) {e : E} (h : e.wf I N sc true = true) : e.wf I N sc X.calm = true := by rw [T.calm]; exact h
mutual
theorem sndS : ∀ (st : S) {sc : Scope} {w : Wd} {X : Cx} (C : CtxOk I sc N k F w X) (T : CtxS I w X), st.wf I N sc = true → PS X st.py (tS w (exs I F st))
  | .expr e p, sc, w, X, C, T, h => by
    have h := and2 h
    refine PS.imp (ps_expr (snd e C (whole_wf T h.1)).v (hs := swap_py (not_b h.2) _ _ _)) fun E σ H ⟨B0, H0, B, ρ, s, q⟩ => ?_
    exact tEi (sR s q) fun v H' ⟨d, B', e1, x1, s1, hd, q1⟩ => q1 _ _ _ s1
  | .app i x e px pa pc p, sc, w, X, C, T, h => s_app C h T.calm
  | .ext i x e px pa pc p, sc, w, X, C, T, h => s_ext C h T.calm
  | .set i x e px p, sc, w, X, C, T, h => s_set C T h
  | .setF i x e px p, sc, w, X, C, T, h => s_setF C T h
  | .par i x px j y py kt pt a b kv pv p, sc, w, X, C, T, h => s_par C T h
  | .par3 i x px j y py l z pz kt pt a b c kv pv p, sc, w, X, C, T, h => s_par3 C T h
  | .unp tg e p, sc, w, X, C, T, h => s_unp C T h
  | .aug i x e px p, sc, w, X, C, T, h => s_aug C T h
  | .ite t a b p, sc, w, X, C, T, h => by
    have h1 := and2 h
    have h2 := and2 h1.1
    refine PS.imp (ps_if (snd t C (whole_wf T h2.1)).t (sndSs a C T h2.2) (sndSs b C T h1.2)) fun E σ H ⟨B0, H0, B, ρ, s, q⟩ => ?_
    unfold exs at q
    refine tTi (sRT s q) fun k H' ⟨B', e1, x1, s1, q1⟩ => ?_
    cases k with
    | true => rw [if_pos rfl] at q1 ⊢; exact ⟨B0, H0, B', ρ, s1, q1⟩
    | false => rw [if_neg Bool.false_ne_true] at q1 ⊢; exact ⟨B0, H0, B', ρ, s1, q1⟩
  | .for_ tg it b p, sc, w, X, C, T, h => by
    have h1 := and2 h
    have h2 := and2 h1.1
    have h3 := and2 h2.1
    refine PS.imp (ps_for T.pass T.calm (sndi it tg C T.calm (by rw [T.calm]; exact h3.2) h2.2) (p_tg C T.calm h3.1) (sndSs b C T h1.2) (fun x => fold_it it X.env x)) fun E σ H z => ?_
    exact for_read (fun _ _ _ z => z) (by unfold exs at z; exact z)
  | .while_ t b p, sc, w, X, C, T, h => by
    have h1 := and2 h
    refine PS.imp (ps_while T.pass (snd t C (whole_wf T h1.1)).t (sndSs b C T h1.2)) fun E σ H z => ?_
    exact while_read (fun _ _ _ z => z) (fun _ _ _ z => z) (by unfold exs at z; exact z)
  | .ret e p, sc, w, X, C, T, h => by
    refine PS.imp (ps_ret (snd e C (whole_wf T h)).v) fun E σ H ⟨B0, H0, B, ρ, s, q⟩ => ?_
    refine tEi (sR s q) fun v H' ⟨d, B', e1, x1, s1, hd, q1⟩ => q1 B' H' v s1.ext hd
  | .rais c y m kk py pm pc p, sc, w, X, C, T, h => s_rais C T h
  | .raisF .., sc, w, X, C, T, h => ⟨fun pins s σ H E I ⟨B0, H0, B, ρ, si, q⟩ => by unfold exs at q; exact q.elim⟩
  | .brk p, sc, w, X, C, T, h => PS.imp ps_break fun E σ H ⟨B0, H0, B, ρ, s, q⟩ => by unfold exs at q; exact q _ _ _ s
  | .cont p, sc, w, X, C, T, h => PS.imp ps_continue fun E σ H ⟨B0, H0, B, ρ, s, q⟩ => by unfold exs at q; exact q _ _ _ s
  | .pass p, sc, w, X, C, T, h => PS.imp ps_pass fun E σ H ⟨B0, H0, B, ρ, s, q⟩ => by unfold exs at q; exact q _ _ _ s
theorem sndSs : ∀ (b : Ss) {sc : Scope} {w : Wd} {X : Cx} (C : CtxOk I sc N k F w X) (T : CtxS I w X), b.wf I N sc = true → PSs X b.py (tS w (exb I F b))
  | .nil, sc, w, X, C, T, h => PSs.imp pss_nil fun E σ H ⟨B0, H0, B, ρ, s, q⟩ => by unfold exb at q; exact q _ _ _ s
  | .cons st r, sc, w, X, C, T, h => by
    have h := and2 h
    refine PSs.imp (pss_cons (sndS st C T h.1) (sndSs r C T h.2)) fun E σ H ⟨B0, H0, B, ρ, s, q⟩ => ⟨B0, H0, B, ρ, s, ?_⟩
    unfold exb at q
    cases eo : exs I F st ρ with
    | nx ρ2 => rw [eo] at q; exact fun B H σ t => ⟨B0, H0, B, ρ2, t, q⟩
    | ct ρ2 => rw [eo] at q; exact q
    | bk ρ2 => rw [eo] at q; exact q
    | rt d => rw [eo] at q; exact q
    | ex c f ρ2 => rw [eo] at q; exact q
    | stuck => rw [eo] at q; exact q
  | .fz i r, sc, w, X, C, T, h => PSs.imp (sndSs r C T h) fun E σ H ⟨B0, H0, B, ρ, s, q⟩ => by
    unfold exb at q
    split at q
    · rename_i ds ho
      obtain ⟨B', s'⟩ := s.fz ho
      exact ⟨B0, H0, B', _, s', q⟩
    · exact ⟨B0, H0, B, ρ, s, q⟩
end
end
end CH

/-! CH 18: the table of functions; the law's call. -/
namespace CH
open PySem PySem.Spec PyProof.Rows L2

/-- a def: its text, its name, its slots, its parameters, the last ones' defaults, its body in the small language -/
structure DefI where
  st : Stmt
  nm : Str
  N : List Str
  ps : List Str
  dfl : List D
  body : Ss
def infoOf (gs : List (Str × D)) (ds : List DefI) (xs : List XInfo) : Info := ⟨gs, ds.map fun d => ⟨d.nm, d.ps.length, d.dfl⟩, xs⟩
/-- the functions, by how deep their calls may go -/
def callF (I : Info) (ds : List DefI) : Nat → FT
  | 0 => fun _ _ => .stuck
  | k + 1 => fun f args => match ds[f]? with
    | some d => runB I (callF I ds k) d.N.length d.body args
    | none => .stuck
/-- what is seen from the text -/
def scOk (N P : List Str) (sc : Scope) : Bool :=
  decide (sc.kind = .function) && !sc.isCoroutine && !sc.isGenerator && decide N.Nodup && decide (N.take P.length = P) && P.all (fun x => decide (sc.names.lookup x = some .local) || decide (sc.names.lookup x = some .cell)) && sc.names.all (fun y => !decide (y.2 = .free))
theorem scOk_of {N P : List Str} {sc : Scope} (h : scOk N P sc = true) : FnScope N P sc := by
  unfold scOk at h
  simp only [Bool.and_eq_true, Bool.not_eq_true', decide_eq_true_eq, List.all_eq_true, Bool.or_eq_true, decide_eq_false_iff_not] at h
  obtain ⟨⟨⟨⟨⟨⟨h1, h2⟩, h3⟩, h4⟩, h5⟩, h6⟩, h7⟩ := h
  exact ⟨h1, h2, h3, h4, h5, h6, h7⟩
structure DefT (I : Info) (d : DefI) : Prop where
  eq : defBody d.st = d.body.py
  wf : d.body.wf I d.N (defScope d.st) = true
  sc : scOk d.N d.ps (defScope d.st) = true
/-- a def as it stands behind the top -/
structure DefW (K : PySem.W.Frag) (mg : Str → Option Value) (d : DefI) (f : Addr) (fd : FuncData) : Prop where
  ex : ∃ (oc : Value) (od : Option Addr) (dV kV doc pm : Value) (an : Option Addr) (cdv ct : Value) (osl : Array (Option Value)),
    fd = PySem.W.fnOf d.nm d.nm (defArgs d.st) (defBody d.st) (defScope d.st) dV kV doc pm an cdv ct ∧ K.lookup f = some ⟨oc, od, .func fd, osl⟩ ∧ PySem.W.codeIn K cdv d.nm = true
  kp : PySem.W.keepIn K (.ref f) = true
  mgf : mg d.nm = some (.ref f)
  bd : ∀ n, n ≤ d.ps.length → d.ps.length - n ≤ d.dfl.length → ∃ ds dvs, Binds K fd d.ps ds ∧ Vals dvs ds ∧ dvs.length = d.ps.length - n ∧ DpAll K (fun _ => none) dvs (FInfo.fill ⟨d.nm, d.ps.length, d.dfl⟩ n)
/-- a def without defaults -/
theorem DefW.plain {K : PySem.W.Frag} {mg : Str → Option Value} {st : Stmt} {nm : Str} {N ps : List Str} {body : Ss} {f : Addr} {oc : Value} {od an : Option Addr} {osl : Array (Option Value)} {kV doc pm cdv ct : Value}
    (hm : mg nm = some (.ref f)) (l : K.lookup f = some ⟨oc, od, .func (PySem.W.fnOf nm nm (defArgs st) (defBody st) (defScope st) .none kV doc pm an cdv ct), osl⟩)
    (c : PySem.W.codeIn K cdv nm = true) (k : PySem.W.keepIn K (.ref f) = true)
    (h : ∀ (us : List Value), us.length = ps.length → bindArgs (PySem.W.fnOf nm nm (defArgs st) (defBody st) (defScope st) .none kV doc pm an cdv ct) ⟨us, []⟩ = pure (ps.zip us)) :
    DefW K mg ⟨st, nm, N, ps, [], body⟩ f (PySem.W.fnOf nm nm (defArgs st) (defBody st) (defScope st) .none kV doc pm an cdv ct) :=
  ⟨⟨oc, od, .none, kV, doc, pm, an, cdv, ct, osl, rfl, l, c⟩, k, hm, fun n h1 h2 => ⟨[], [], .all h, .nil, by
    have h2 : ps.length - n ≤ 0 := h2
    show 0 = ps.length - n
    omega, by
    have e : FInfo.fill ⟨nm, ps.length, []⟩ n = [] := by simp [FInfo.fill]
    show DpAll K _ [] (FInfo.fill ⟨nm, ps.length, []⟩ n)
    rw [e]; exact .nil⟩⟩

/-- a def with one default -/
theorem DefW.one {K : PySem.W.Frag} {mg : Str → Option Value} {st : Stmt} {nm : Str} {N ps : List Str} {body : Ss} {f T : Addr} {oc u : Value} {od an : Option Addr} {osl : Array (Option Value)} {kV doc pm cdv ct : Value} {o : Obj} {m : Nat} {v : V} {dv : D}
    (hm : mg nm = some (.ref f)) (l : K.lookup f = some ⟨oc, od, .func (PySem.W.fnOf nm nm (defArgs st) (defBody st) (defScope st) (.ref T) kV doc pm an cdv ct), osl⟩)
    (c : PySem.W.codeIn K cdv nm = true) (k : PySem.W.keepIn K (.ref f) = true) (lT : K.lookup T = some o) (oT : o.data = .seq [u].toArray m) (hv : RelV v u) (hd : Dp K (fun _ => none) v dv) (hp : 1 ≤ ps.length)
    (h : ∀ (n j : Nat), (n = ps.length ∧ j = 1 ∨ n + 1 = ps.length ∧ j = 0) → ∀ (T : Addr) (kV doc pm : Value) (an : Option Addr) (cdv ct : Value) (us its : List Value), us.length = n → its.length = 1 →
      ∃ k, bindArgs (PySem.W.fnOf nm nm (defArgs st) (defBody st) (defScope st) (.ref T) kV doc pm an cdv ct) ⟨us, []⟩ = seqItems? (.ref T) >>= k ∧ k (some its.toArray) = pure (ps.zip (us ++ its.drop j))) :
    DefW K mg ⟨st, nm, N, ps, [dv], body⟩ f (PySem.W.fnOf nm nm (defArgs st) (defBody st) (defScope st) (.ref T) kV doc pm an cdv ct) := by
  have FD : FunD K nm nm (defArgs st) (defBody st) (defScope st) [v] [] f (PySem.W.fnOf nm nm (defArgs st) (defBody st) (defScope st) (.ref T) kV doc pm an cdv ct) :=
    ⟨⟨oc, od, .ref T, kV, doc, pm, an, cdv, ct, osl, rfl, l, c, .inr ⟨by simp, T, o, [u], m, rfl, lT, oT, .cons hv .nil⟩, .inl rfl⟩, k⟩
  refine ⟨⟨oc, od, .ref T, kV, doc, pm, an, cdv, ct, osl, rfl, l, c⟩, k, hm, fun n h1 h2 => ?_⟩
  have h1 : n ≤ ps.length := h1
  have h2 : ps.length - n ≤ 1 := h2
  by_cases e : n = ps.length
  · obtain ⟨ds, r, b⟩ := FD.binds1 (ps := ps) n 1 (by simp) (by simp; exact e) (h n 1 (.inl ⟨e, rfl⟩))
    refine ⟨ds, [], b, r, by show 0 = ps.length - n; omega, ?_⟩
    have z : FInfo.fill ⟨nm, ps.length, [dv]⟩ n = [] := by simp [FInfo.fill, e]
    show DpAll K _ [] (FInfo.fill ⟨nm, ps.length, [dv]⟩ n)
    rw [z]; exact .nil
  · have e2 : n + 1 = ps.length := by omega
    obtain ⟨ds, r, b⟩ := FD.binds1 (ps := ps) n 0 (by simp) (by simp; exact e2) (h n 0 (.inr ⟨e2, rfl⟩))
    refine ⟨ds, [v], b, r, by show 1 = ps.length - n; omega, ?_⟩
    have z : FInfo.fill ⟨nm, ps.length, [dv]⟩ n = [dv] := by simp [FInfo.fill, show ps.length - n = 1 by omega]
    show DpAll K _ [v] (FInfo.fill ⟨nm, ps.length, [dv]⟩ n)
    rw [z]; exact .cons hd .nil

/-- all that a row's world must give -/
structure World' (K : PySem.W.Frag) (mg : Str → Option Value) (I : Info) (ds : List DefI) (ct : Nat → Option (Addr × Str)) : Prop where
  I_fns : I.fns = ds.map fun d => ⟨d.nm, d.ps.length, d.dfl⟩
  defs : ∀ (i : Nat) (d : DefI), ds[i]? = some d → DefT I d ∧ ∃ f fd, DefW K mg d f fd
  gl : ∀ (g : Nat) (x : Str) (d : D), I.globs[g]? = some (x, d) → ∃ u v, mg x = some u ∧ RelV v u ∧ Dp K (fun _ => none) v d
  bl : ∀ x ∈ bltNames, mg x = none
  exc : ∀ (c : Nat) (xi : XInfo), I.exs[c]? = some xi → ∃ (C : Addr) (nm : Str), ct c = some (C, nm) ∧ mg xi.name = some (.ref C) ∧ PySem.W.keepIn K (.ref C) = true ∧ PySem.W.subIn K (.ref C) (.type "BaseException") = some true ∧ PySem.W.typeIn K (.ref C) = some (.type "type") ∧
    (xi.field = none → ∃ B newId initId bmB, ExcBaseFacts B newId initId bmB ∧ PySem.W.excIn K C bmB newId = true)

section
variable {K : PySem.W.Frag} {mg : Str → Option Value} {I : Info} {ds : List DefI} {ct : Nat → Option (Addr × Str)} {P : Program} {w : World} {base : Heap}
theorem start_rel {vs : List V} {es : List D} {B H : Hp} {n : Nat} {sx} (sb : Same B H) (r : DpAll K B vs es) (hn : n = n) : Rel K sx B H (vs.map some ++ List.replicate (n - vs.length) none) (es.map Sl.dat ++ List.replicate (n - es.length) Sl.no) := by
  have hl := r.length
  have key : ∀ (i : Nat) (s : Sl), (es.map Sl.dat ++ List.replicate (n - es.length) Sl.no)[i]? = some s → (∃ d, s = .dat d ∧ es[i]? = some d) ∨ s = .no := fun i s h => by
    by_cases hi : i < es.length
    · rw [List.getElem?_append_left (by simpa using hi), List.getElem?_map] at h
      cases e : es[i]? with
      | none => rw [e] at h; cases h
      | some d => rw [e] at h; cases h; exact .inl ⟨d, rfl, rfl⟩
    · rw [List.getElem?_append_right (by simpa using hi), List.getElem?_replicate] at h
      split at h
      · cases h; exact .inr rfl
      · cases h
  refine ⟨by simp [hl], sb, fun i d h => ?_, fun i ds h => ?_, fun i j d1 d2 a h => ?_, fun i c f h => ?_⟩
  · rcases key i _ h with ⟨d', e, h⟩ | e
    · cases e
      obtain ⟨v, hv, hp⟩ := r.get h
      refine ⟨v, ?_, hp⟩
      rw [List.getElem?_append_left (by
        have := (List.getElem?_eq_some_iff.mp hv).1
        simpa using this), List.getElem?_map, hv]
      rfl
    · cases e
  · rcases key i _ h with ⟨d', e, _⟩ | e <;> cases e
  · rcases key i _ h with ⟨d', e, _⟩ | e <;> cases e
  · rcases key i _ h with ⟨d', e, _⟩ | e <;> cases e
theorem raises_of {X : Cx} {C : Addr} (h1 : PySem.W.subIn X.K (.ref C) (.type "BaseException") = some true) (h2 : PySem.W.typeIn X.K (.ref C) = some (.type "type")) : Raises X (.ref C) := raises_own h1 h2
theorem defs_ok (Wd' : World' K mg I ds ct) : ∀ (k i : Nat) (d : DefI) (f : Addr) (fd : FuncData), ds[i]? = some d → DefW K mg d f fd → FnOk P w K mg base (L2.CX P w) (k + 20) f fd d.ps (spD K ct d.ps.length (callF I ds k i))
  | 0, i, d, f, fd, e, DW => ⟨fun vs H Q E h => h.1, fun A outer s H args us vs Q E _ _ _ _ h => by
      obtain ⟨_, B, es, _, _, h⟩ := h
      exact h.elim⟩
  | k + 1, i, d, f, fd, e, DW => by
    obtain ⟨oc, od, dV, kV, doc, pm, an, cdv, cty, osl, rfl, lk, hcd⟩ := DW.ex
    have T := (Wd'.defs i d e).1
    have S := scOk_of T.sc
    show FnOk P w K mg base (L2.CX P w) ((k + 20) + 1) f _ d.ps _
    refine fn_of lk hcd S (fun vs H Q E h => h.1) fun A outer s H vs Q E hr h => ?_
    obtain ⟨hl, B, es, sb, r, h⟩ := h
    have hle := r.length
    have hps : d.ps.length ≤ d.N.length := by
      have := congrArg List.length S.pre
      rw [List.length_take] at this; omega
    have h : Ev ⟨K, ct, none, fun cls dx _ H' => E cls dx H'⟩ B H [] Q (runB I (callF I ds k) d.N.length d.body es) := by
      have z : callF I ds (k + 1) i es = runB I (callF I ds k) d.N.length d.body es := by
        show (match ds[i]? with | some d => _ | none => _) = _
        rw [e]
      rw [← z]; exact h
    have C : CtxOk I (defScope d.st) d.N k (callF I ds k) ⟨K, ct, none, fun cls dx _ H' => E cls dx H'⟩ (cxOf (L2.CX P w) P w K mg base d.N d.nm (defScope d.st) f cdv A outer s H E) := by
      refine ⟨rfl, rfl, S.nd, fun x kd e _ => e, fun x e => absurd rfl (S.nofree _ (PySem.mem_of_lookup e)), fun _ _ => rfl, ?_, fun _ => hr, takes_of rfl rfl rfl rfl, Wd'.gl, Wd'.bl, fun _ f' fi hf => ?_⟩
      · have hu := hr.un
        show (A.deeper _).units + 500 < cLine
        omega
      · rw [Wd'.I_fns, List.getElem?_map] at hf
        cases e' : ds[f']? with
        | none => rw [e'] at hf; cases hf
        | some d' =>
          rw [e'] at hf
          cases hf
          obtain ⟨fa', fd', DW'⟩ := (Wd'.defs f' d' e').2
          exact ⟨fa', fd', d'.ps, defs_ok Wd' k f' d' fa' fd' e' DW', DW'.mgf, DW'.kp, DW'.bd⟩
    have CS : CtxS I ⟨K, ct, none, fun cls dx _ H' => E cls dx H'⟩ (cxOf (L2.CX P w) P w K mg base d.N d.nm (defScope d.st) f cdv A outer s H E) := by
      refine ⟨rfl, passes_of rfl, S.kind, fun c xi hx => ?_⟩
      obtain ⟨Cl, nm, e1, e2, e3, e4, e5, e6⟩ := Wd'.exc c xi hx
      exact ⟨Cl, nm, e1, e2, e3, raises_of e4 e5, e6⟩
    have hS := sndSs d.body C CS T.wf
    rw [← T.eq] at hS
    refine ⟨_, hS, ?_⟩
    refine ⟨B, H, B, es.map Sl.dat ++ List.replicate (d.N.length - es.length) Sl.no, ⟨Ext.refl sb, start_rel sb r rfl, fun j ds' a h1 _ => ?_⟩, ?_⟩
    · obtain ⟨a, xs, _, _, _, _⟩ := (start_rel (sx := (none : Option (Addr × Nat × Option Addr × Str))) (K := K) (n := d.N.length) sb r rfl).own j ds' h1
      by_cases hj : j < es.length
      · rw [List.getElem?_append_left (by simpa using hj), List.getElem?_map] at h1
        cases e1 : es[j]? with
        | none => rw [e1] at h1; cases h1
        | some d => rw [e1] at h1; cases h1
      · rw [List.getElem?_append_right (by simpa using hj), List.getElem?_replicate] at h1
        split at h1 <;> cases h1
    · unfold runB at h
      cases eo : exb I (callF I ds k) d.body (es.map Sl.dat ++ List.replicate (d.N.length - es.length) Sl.no) with
      | nx ρ => rw [eo] at h; exact fun B' H' σ s' => h .non B' H' s'.ext .non
      | rt z => rw [eo] at h; exact fun B' H' v x hd => h v B' H' x hd
      | bk ρ => rw [eo] at h; exact h.elim
      | ct ρ => rw [eo] at h; exact h.elim
      | ex c f ρ => rw [eo] at h; exact fun cls dx B' H' σ s' hx => h cls dx B' H' s'.ext hx
      | stuck => rw [eo] at h; exact h.elim
end
end CH

/-! CH 19: the law's end. -/
namespace CH
open PySem PySem.Spec PyProof.Rows L2

/-- a promise that names no exception -/
def spTop (K : PySem.W.Frag) (g : List D → R D) : Sp := fun vs H Q E => vs.length = 1 ∧ ∃ B ds z, Same B H ∧ DpAll K B vs ds ∧ g ds = .ok z ∧ ∀ v B' H', Ext B H B' H' → Dp K B' v z → Q v H'
theorem spTop_spD {K : PySem.W.Frag} {ct : Nat → Option (Addr × Str)} {g : List D → R D} {vs : List V} {H : Hp} {Q : VK} {E : XK} (h : spTop K g vs H Q E) : spD K ct 1 g vs H Q E := by
  obtain ⟨h1, B, ds, z, h2, h3, h4, h5⟩ := h
  refine ⟨h1, B, ds, h2, h3, ?_⟩
  rw [h4]
  exact h5
theorem script_dp {K : PySem.W.Frag} {H : Hp} : ∀ ns : List Int, DpAll K H (ns.map V.int) (ns.map PyData.int)
  | [] => .nil
  | n :: r => .cons (.int n) (script_dp r)
theorem law_end {l : PySem.W.OpenLaw} {n kk li : Nat} {q : Program} {loose : List Str} {XP : (Str → Option Value) → Heap → Prop} {YP : World → Heap → Prop} {d : DefRec} {K : Params → PySem.W.Frag} {x : Str} {I : Info} {ds : List DefI} {dd : DefI}
    (hn : l.most = some n) (hn2 : n ≤ sizeLine) (hdf : d.params.defaults = []) (hr : Room (kk + 20) callerA)
    (hY : ∀ (w : World) (h : Heap), YP w h → (K w.params).In h) (hd : ds[li]? = some dd) (hp : dd.ps = [x]) (hnm : dd.nm = d.name)
    (F : ∀ (w : World) (mg : Str → Option Value) (h : Heap), (K w.params).In h → h.Ns mainGlobals mg → ∃ ct f fd, World' (K w.params) mg I ds ct ∧ DefW (K w.params) mg dd f fd ∧ ∀ (s : Shared) (u : Value), BindsTo s fd ⟨[u], []⟩ [(x, u)])
    (law : ∀ ns : List Int, ns.length ≤ n → (∀ z ∈ ns, Builtin.Int.intBits z ≤ 1048576) → callF I ds kk li [.list (ns.map PyData.int)] = .ok (.bool true)) :
    PySem.W.WalkO q loose XP YP l.row.toRowW d [] (fun f vs => PySem.call f vs) := by
  refine L2.walk_ofB (l := l) (n := n) (k := kk + 20) (x := x) (CX := fun w => L2.CX l.prog w) (sp := fun w => spTop (K w.params) (callF I ds kk li)) hn hn2 hdf hr hY (fun w mg fa h KX G hmg => ?_) (fun w H a ns hl hb _ hS => ⟨rfl, H, [.list (ns.map PyData.int)], .bool true, Same.refl _, .cons (.lst hS (script_dp ns)) .nil, law ns hl hb, fun v B' H' _ hd => by cases hd; rfl⟩)
    (fun w H s e s' h => by obtain ⟨_, _, _, _, _, _, _, _, _, _, _, _, z⟩ := h; exact z)
  obtain ⟨ct, f, fd, WD, DW, bt⟩ := F w mg h KX G
  have e : fa = f := by
    have := DW.mgf
    rw [hnm, hmg] at this
    cases this; rfl
  subst e
  refine ⟨fd, bt, fun base _ _ => ?_⟩
  have z := defs_ok (P := l.prog) (w := w) (base := base) WD kk li dd fa fd hd DW
  rw [hp] at z
  exact z.imp fun vs H Q E h => spTop_spD h

/-- every one of a list -/
def AllD (P : DefI → Prop) : List DefI → Prop
  | [] => True
  | d :: r => P d ∧ AllD P r
theorem AllD.at {P : DefI → Prop} : ∀ {ds : List DefI} {i : Nat} {d : DefI}, AllD P ds → ds[i]? = some d → P d
  | [], _, _, _, e => by simp at e
  | d :: r, 0, _, h, e => by cases e; exact h.1
  | d :: r, i + 1, _, h, e => AllD.at (ds := r) (i := i) h.2 (by simpa using e)
/-- the names of the built-ins that stand as they are -/
theorem blt_all {mg : Str → Option Value} (h1 : mg "len" = none) (h2 : mg "list" = none) (h3 : mg "tuple" = none) (h4 : mg "sorted" = none) (h5 : mg "str" = none) (h6 : mg "isinstance" = none) (h7 : mg "int" = none) (h8 : mg "bool" = none) (h9 : mg "set" = none) (h10 : mg "range" = none) (h11 : mg "enumerate" = none) (h12 : mg "zip" = none) (h13 : mg "reversed" = none) : ∀ x ∈ bltNames, mg x = none := by
  intro x hx
  simp only [bltNames, List.mem_cons, List.not_mem_nil, or_false] at hx
  rcases hx with rfl | rfl | rfl | rfl | rfl | rfl | rfl | rfl | rfl | rfl | rfl | rfl | rfl <;> assumption
def cSc (l : List (Str × NameKind)) : Scope := { kind := .function, names := l, isGenerator := false, isCoroutine := false, more := [] }
end CH

/-! CH 20: how a body is read by simp. -/
namespace CH
open PySem PySem.Spec PyProof.Rows L2

section
variable {I : Info} {F : FT}
@[simp] theorem mk_v (m : M D) : (mkV m).v = m := rfl
@[simp] theorem mk_t (m : M D) (ρ : List Sl) : (mkV m).t ρ = (m ρ).bind fun d => R.of (dTru d) := rfl
@[simp] theorem b_ok {α β : Type} (a : α) (k : α → R β) : (R.ok a).bind k = k a := rfl
@[simp] theorem b_exc {α β : Type} (c : Nat) (f : Option D) (k : α → R β) : (R.exc c f : R α).bind k = .exc c f := rfl
@[simp] theorem b_st {α β : Type} (k : α → R β) : (R.stuck : R α).bind k = .stuck := rfl
@[simp] theorem b_if {α β : Type} (c : Prop) [Decidable c] (a b : R α) (k : α → R β) : (if c then a else b).bind k = if c then a.bind k else b.bind k := by split <;> rfl
@[simp] theorem of_some {α : Type} (a : α) : R.of (some a) = .ok a := rfl
@[simp] theorem of_none {α : Type} : R.of (none : Option α) = .stuck := rfl
@[simp] theorem of_if {α : Type} (c : Prop) [Decidable c] (a b : Option α) : R.of (if c then a else b) = if c then R.of a else R.of b := by split <;> rfl
@[simp] theorem nx_ok' {α : Type} (a : α) : (R.ok a).nx = .ok a := rfl
@[simp] theorem nx_if {α : Type} (c : Prop) [Decidable c] (a b : R α) : (if c then a else b).nx = if c then a.nx else b.nx := by split <;> rfl
@[simp] theorem on_ok {α : Type} (a : α) (ρ : List Sl) (k : α → O) : onR (.ok a) ρ k = k a := rfl
@[simp] theorem on_exc {α : Type} (c : Nat) (f : Option D) (ρ : List Sl) (k : α → O) : onR (.exc c f : R α) ρ k = .ex c f ρ := rfl
@[simp] theorem on_st {α : Type} (ρ : List Sl) (k : α → O) : onR (.stuck : R α) ρ k = .stuck := rfl
@[simp] theorem on_if {α : Type} (c : Prop) [Decidable c] (a b : R α) (ρ : List Sl) (k : α → O) : onR (if c then a else b) ρ k = if c then onR a ρ k else onR b ρ k := by split <;> rfl
@[simp] theorem sq_nx (ρ : List Sl) (k : List Sl → O) : (O.nx ρ).seq k = k ρ := rfl
@[simp] theorem sq_rt (d : D) (k : List Sl → O) : (O.rt d).seq k = .rt d := rfl
@[simp] theorem sq_bk (ρ : List Sl) (k : List Sl → O) : (O.bk ρ).seq k = .bk ρ := rfl
@[simp] theorem sq_ct (ρ : List Sl) (k : List Sl → O) : (O.ct ρ).seq k = .ct ρ := rfl
@[simp] theorem sq_ex (c : Nat) (f : Option D) (ρ : List Sl) (k : List Sl → O) : (O.ex c f ρ).seq k = .ex c f ρ := rfl
@[simp] theorem sq_st (k : List Sl → O) : O.stuck.seq k = .stuck := rfl
@[simp] theorem sq_if (c : Prop) [Decidable c] (a b : O) (k : List Sl → O) : (if c then a else b).seq k = if c then a.seq k else b.seq k := by split <;> rfl
@[simp] theorem ou_rt (d : D) : (O.rt d).out = .ok d := rfl
@[simp] theorem ou_nx (ρ : List Sl) : (O.nx ρ).out = .ok .none := rfl
@[simp] theorem ou_ex (c : Nat) (f : Option D) (ρ : List Sl) : (O.ex c f ρ).out = .exc c f := rfl
@[simp] theorem ou_if (c : Prop) [Decidable c] (a b : O) : (if c then a else b).out = if c then a.out else b.out := by split <;> rfl
@[simp] theorem tru_b (b : Bool) : dTru (.bool b) = some b := rfl
@[simp] theorem setS_eq (ρ : List Sl) (i : Nat) (d : D) : setS ρ i d = ρ.set i (.dat d) := rfl
@[simp] theorem wi_nil (ρ : List Sl) : wipeS ρ [] = ρ := rfl
@[simp] theorem wi_cons (ρ : List Sl) (v : Nat) (vs : List Nat) : wipeS ρ (v :: vs) = (wipeS ρ vs).set v .no := rfl
@[simp] theorem tg_one (i : Nat) (x : Str) (p : Pos) (d : D) (ρ : List Sl) : (Tg.one i x p).set d ρ = some (ρ.set i (.dat d)) := rfl
@[simp] theorem tg_two (i j k : Nat) (x y : Str) (p q r : Pos) (a b : D) (ρ : List Sl) : (Tg.two i x p j y q k r).set (.tuple [a, b]) ρ = some ((ρ.set i (.dat a)).set j (.dat b)) := rfl
@[simp] theorem if_bool {α : Type} (b : Bool) (x y : α) : (if (decide (b = true)) = true then x else y) = if b = true then x else y := by cases b <;> rfl
end
/-! operations on data -/
section
variable (i j : Int) (a b : Str) (d e : D) (xs ys : List D)
@[simp] theorem o_add : dBin .Add = dAdd := rfl
@[simp] theorem o_sub : dBin .Sub = dSub := rfl
@[simp] theorem o_mul : dBin .Mult = dMul := rfl
@[simp] theorem o_div : dBin .FloorDiv = dDiv := rfl
@[simp] theorem o_mod : dBin .Mod = dMod := rfl
@[simp] theorem o_pow : dBin .Pow = dPow := rfl
@[simp] theorem o_addI : dAdd (.int i) (.int j) = some (.int (i + j)) := rfl
@[simp] theorem o_addS : dAdd (.str a) (.str b) = if a.length + b.length ≤ lim then some (.str (a ++ b)) else none := rfl
@[simp] theorem o_addT : dAdd (.tuple xs) (.tuple ys) = if xs.length + ys.length ≤ lim then some (.tuple (xs ++ ys)) else none := rfl
@[simp] theorem o_addL : dAdd (.list xs) (.list ys) = if xs.length + ys.length ≤ lim then some (.list (xs ++ ys)) else none := rfl
@[simp] theorem o_subI : dSub (.int i) (.int j) = some (.int (i - j)) := rfl
@[simp] theorem o_neg : dNeg (.int i) = some (.int (-i)) := rfl
theorem o_mulI (h1 : -1000000000000 < j) (h2 : j < 1000000000000) : dMul (.int i) (.int j) = some (.int (i * j)) := by
  show (if smI 1000000000000 j = true then _ else _) = _
  rw [if_pos (smI_iff.mpr ⟨by omega, by omega⟩)]
theorem o_divI (h1 : 0 < j) (h2 : j < 1073741824) : dDiv (.int i) (.int j) = some (.int (i / j)) := by
  show (if 0 < j ∧ j < 1073741824 then _ else _) = _
  rw [if_pos ⟨h1, h2⟩]
theorem o_modI (h1 : 0 < j) : dMod (.int i) (.int j) = some (.int (i % j)) := by
  show (if 0 < j then _ else _) = _
  rw [if_pos h1]
@[simp] theorem o_cEq : dCmp .Eq = dEq := rfl
@[simp] theorem o_cNe : dCmp .NotEq = dNe := rfl
@[simp] theorem o_cLt : dCmp .Lt = dLt := rfl
@[simp] theorem o_cLe : dCmp .LtE = dLe := rfl
@[simp] theorem o_cGt : dCmp .Gt = dGt := rfl
@[simp] theorem o_cGe : dCmp .GtE = dGe := rfl
@[simp] theorem o_cIn : dCmp .In = dIn := rfl
@[simp] theorem o_cNi : dCmp .NotIn = dNotIn := rfl
@[simp] theorem o_cIs : dCmp .Is = dIs := rfl
@[simp] theorem o_cIn' : dCmp .IsNot = dIsNot := rfl
@[simp] theorem o_lt : dLt (.int i) (.int j) = some (.bool (decide (i < j))) := rfl
@[simp] theorem o_le : dLe (.int i) (.int j) = some (.bool (decide (i ≤ j))) := rfl
@[simp] theorem o_gt : dGt (.int i) (.int j) = some (.bool (decide (j < i))) := rfl
@[simp] theorem o_ge : dGe (.int i) (.int j) = some (.bool (decide (j ≤ i))) := rfl
theorem dEq_of (h : min d.depth e.depth ≤ 400) : dEq d e = some (.bool (PyData.eqv d e)) := by unfold dEq; rw [if_pos h]
theorem dNe_of (h : min d.depth e.depth ≤ 400) : dNe d e = some (.bool (!PyData.eqv d e)) := by unfold dNe; rw [if_pos h]
theorem eqv_str : PyData.eqv (.str a) (.str b) = decide (a = b) := by
  by_cases h : a = b
  · subst h; simp [PyData.eqv]
  · simp [PyData.eqv, h]
theorem eqv_int : PyData.eqv (.int i) (.int j) = decide (i = j) := by
  by_cases h : i = j
  · subst h; simp [PyData.eqv]
  · simp [PyData.eqv, h]
@[simp] theorem o_eqS : dEq (.str a) (.str b) = some (.bool (decide (a = b))) := by rw [dEq_of _ _ (by simp [PyData.depth]), eqv_str]
@[simp] theorem o_neS : dNe (.str a) (.str b) = some (.bool (!decide (a = b))) := by rw [dNe_of _ _ (by simp [PyData.depth]), eqv_str]
@[simp] theorem o_eqI : dEq (.int i) (.int j) = some (.bool (decide (i = j))) := by rw [dEq_of _ _ (by simp [PyData.depth]), eqv_int]
@[simp] theorem o_neI : dNe (.int i) (.int j) = some (.bool (!decide (i = j))) := by rw [dNe_of _ _ (by simp [PyData.depth]), eqv_int]
@[simp] theorem o_eqTS : dEq (.tuple xs) (.str b) = some (.bool false) := by rw [dEq_of _ _ (by simp [PyData.depth])]; simp [PyData.eqv]
@[simp] theorem o_eqST : dEq (.str b) (.tuple xs) = some (.bool false) := by rw [dEq_of _ _ (by simp [PyData.depth])]; simp [PyData.eqv]
@[simp] theorem o_isN : dIs d .none = some (.bool (isN d)) := by cases d <;> rfl
@[simp] theorem o_isB (x y : Bool) : dIs (.bool x) (.bool y) = some (.bool (decide (x = y))) := rfl
@[simp] theorem o_isnN : dIsNot d .none = some (.bool (!isN d)) := by cases d <;> rfl
@[simp] theorem o_tN : dTru .none = some false := rfl
@[simp] theorem o_tI : dTru (.int i) = some (i != 0) := rfl
@[simp] theorem o_tL : dTru (.list xs) = some (!xs.isEmpty) := rfl
@[simp] theorem o_tT : dTru (.tuple xs) = some (!xs.isEmpty) := rfl
@[simp] theorem o_ixL : dIx (.list xs) (.int i) = L2.atI xs i := rfl
@[simp] theorem o_ixT : dIx (.tuple xs) (.int i) = L2.atI xs i := rfl
@[simp] theorem o_lenL : biS .len (.list xs) = some (.int xs.length) := rfl
@[simp] theorem o_lenT : biS .len (.tuple xs) = some (.int xs.length) := rfl
@[simp] theorem o_lenS : biS .len (.str a) = if a.length ≤ lim then some (.int a.length) else none := rfl
@[simp] theorem o_lstL : biS .list (.list xs) = some (.list xs) := rfl
@[simp] theorem o_tup : biS .tuple (.list xs) = some (.tuple xs) := rfl
@[simp] theorem o_itL : itemsS (.list xs) = some xs := rfl
@[simp] theorem o_itT : itemsS (.tuple xs) = some xs := rfl
@[simp] theorem o_rvL : revS (.list xs) = some xs.reverse := rfl
@[simp] theorem o_rvT : revS (.tuple xs) = some xs.reverse := rfl
@[simp] theorem o_en : enumS (.list xs) = some (enumFrom 0 xs) := rfl
@[simp] theorem o_zp : zipS (.list xs) (.list ys) = some (zipD xs ys) := rfl
@[simp] theorem o_dI : dInt (.int i) = some i := rfl
@[simp] theorem o_dB (x : Bool) : dBool (.bool x) = some x := rfl
@[simp] theorem o_slL (l h : Option Int) : dSl (.list xs) l h = some (.list (cutD xs l h)) := rfl
@[simp] theorem o_slT (l h : Option Int) : dSl (.tuple xs) l h = some (.tuple (cutD xs l h)) := rfl
@[simp] theorem o_c1 : cstD .none = some .none := rfl
@[simp] theorem o_c2 (x : Bool) : cstD (.bool x) = some (.bool x) := rfl
@[simp] theorem o_c3 : cstD (.int i) = some (.int i) := rfl
@[simp] theorem o_c4 : cstD (.str a) = some (.str a) := rfl
@[simp] theorem o_ySS : tyS .str (.str a) = true := rfl
@[simp] theorem o_ySI : tyS .str (.int i) = false := rfl
@[simp] theorem o_yST : tyS .str (.tuple xs) = false := rfl
@[simp] theorem o_ySL : tyS .str (.list xs) = false := rfl
@[simp] theorem o_ySN : tyS .str .none = false := rfl
@[simp] theorem o_yTS : tyS .tuple (.str a) = false := rfl
@[simp] theorem o_yTI : tyS .tuple (.int i) = false := rfl
@[simp] theorem o_yTT : tyS .tuple (.tuple xs) = true := rfl
@[simp] theorem o_yTL : tyS .tuple (.list xs) = false := rfl
@[simp] theorem o_yTN : tyS .tuple .none = false := rfl
/-- indices -/
@[simp] theorem at0 {x : D} : L2.atI (x :: xs) 0 = some x := atI_nat (j := 0) rfl
@[simp] theorem at1 {x y : D} : L2.atI (x :: y :: xs) 1 = some y := atI_nat (j := 1) rfl
@[simp] theorem at2 {x y z : D} : L2.atI (x :: y :: z :: xs) 2 = some z := atI_nat (j := 2) rfl
theorem at_nat {n : Nat} {x : D} (h : xs[n]? = some x) : L2.atI xs (n : Int) = some x := atI_nat h
end
end CH
namespace CH
open PySem
@[simp] theorem fill_nil (x : Str) (n m : Nat) : FInfo.fill ⟨x, n, []⟩ m = [] := by simp [FInfo.fill]
end CH

/-! CH 21: loops by their invariants; numbers, names, terms as data. -/
namespace CH
open PySem PySem.Spec PyProof.Rows L2

/-- what is wanted of a body's end -/
structure Po where
  nx : List Sl → Prop
  rt : D → Prop
  bk : List Sl → Prop
  ct : List Sl → Prop
  ex : Nat → Option D → List Sl → Prop
def wp (P : Po) : O → Prop
  | .nx ρ => P.nx ρ
  | .rt d => P.rt d
  | .bk ρ => P.bk ρ
  | .ct ρ => P.ct ρ
  | .ex c f ρ => P.ex c f ρ
  | .stuck => False
section
variable {P : Po}
@[simp] theorem wp_nx (ρ : List Sl) : wp P (.nx ρ) = P.nx ρ := rfl
@[simp] theorem wp_rt (d : D) : wp P (.rt d) = P.rt d := rfl
@[simp] theorem wp_bk (ρ : List Sl) : wp P (.bk ρ) = P.bk ρ := rfl
@[simp] theorem wp_ct (ρ : List Sl) : wp P (.ct ρ) = P.ct ρ := rfl
@[simp] theorem wp_ex (c : Nat) (f : Option D) (ρ : List Sl) : wp P (.ex c f ρ) = P.ex c f ρ := rfl
@[simp] theorem wp_if (c : Prop) [Decidable c] (a b : O) : wp P (if c then a else b) = if c then wp P a else wp P b := by split <;> rfl
@[simp] theorem wp_seq (o : O) (k : List Sl → O) : wp P (o.seq k) = wp { P with nx := fun ρ => wp P (k ρ) } o := by cases o <;> rfl
theorem wp_for {bd : D → List Sl → Option (List Sl)} {body : List Sl → O} {ds : List D} {ρ : List Sl} (Inv : Nat → List Sl → Prop) (h0 : Inv 0 ρ)
    (hs : ∀ (i : Nat) (d : D) (ρ : List Sl), ds[i]? = some d → Inv i ρ → ∃ ρ', bd d ρ = some ρ' ∧ wp { P with nx := Inv (i + 1), ct := Inv (i + 1), bk := P.nx } (body ρ'))
    (he : ∀ ρ, Inv ds.length ρ → P.nx ρ) : wp P (forS bd body ds ρ) := by
  have key : ∀ (es : List D) (n : Nat) (ρ : List Sl), n + es.length = ds.length → (∀ i, es[i]? = ds[n + i]?) → Inv n ρ → wp P (forS bd body es ρ) := by
    intro es
    induction es with
    | nil => intro n ρ h _ hi; exact he ρ (by rw [← h]; exact hi)
    | cons d es ih =>
      intro n ρ h hg hi
      obtain ⟨ρ', e, hb⟩ := hs n d ρ (by have := hg 0; simpa using this.symm) hi
      rw [forS, e]
      dsimp only
      have hg' : ∀ i, es[i]? = ds[n + 1 + i]? := fun i => by
        have := hg (i + 1)
        rw [show n + (i + 1) = n + 1 + i by omega] at this
        simpa using this
      cases eo : body ρ' with
      | nx ρ2 => rw [eo] at hb; exact ih (n + 1) ρ2 (by rw [← h, List.length_cons]; omega) hg' hb
      | ct ρ2 => rw [eo] at hb; exact ih (n + 1) ρ2 (by rw [← h, List.length_cons]; omega) hg' hb
      | bk ρ2 => rw [eo] at hb; exact hb
      | rt d => rw [eo] at hb; exact hb
      | ex c f ρ2 => rw [eo] at hb; exact hb
      | stuck => rw [eo] at hb; exact hb
  exact key ds 0 ρ (by omega) (fun i => by rw [Nat.zero_add]) h0
theorem wp_while {test : M Bool} {body : List Sl → O} {n : Nat} {ρ : List Sl} (Inv : Nat → List Sl → Prop) (m : Nat) (hm : m < n) (h0 : Inv m ρ)
    (hs : ∀ (m : Nat) (ρ : List Sl), Inv m ρ → (test ρ = .ok false ∧ P.nx ρ) ∨ (test ρ = .ok true ∧ wp { P with nx := fun ρ => ∃ m', m' < m ∧ Inv m' ρ, ct := fun ρ => ∃ m', m' < m ∧ Inv m' ρ, bk := P.nx } (body ρ))) :
    wp P (whileS test body n ρ) := by
  induction n generalizing m ρ with
  | zero => omega
  | succ n ih =>
    rw [whileS]
    rcases hs m ρ h0 with ⟨e, q⟩ | ⟨e, q⟩
    · rw [e, on_ok, if_neg Bool.false_ne_true]
      exact q
    · rw [e, on_ok, if_pos rfl]
      cases eo : body ρ with
      | nx ρ2 => rw [eo] at q; obtain ⟨m', h1, h2⟩ := q; exact ih m' (by omega) h2
      | ct ρ2 => rw [eo] at q; obtain ⟨m', h1, h2⟩ := q; exact ih m' (by omega) h2
      | bk ρ2 => rw [eo] at q; exact q
      | rt d => rw [eo] at q; exact q
      | ex c f ρ2 => rw [eo] at q; exact q
      | stuck => rw [eo] at q; exact q
end
/-- a call gives such a datum -/
def Gv (Q : D → Prop) (r : R D) : Prop := ∃ d, r = .ok d ∧ Q d
theorem gv_out {Q : D → Prop} {o : O} (h : wp ⟨fun _ => Q .none, Q, fun _ => False, fun _ => False, fun _ _ _ => False⟩ o) : Gv Q o.out := by
  cases o with
  | nx ρ => exact ⟨_, rfl, h⟩
  | rt d => exact ⟨_, rfl, h⟩
  | _ => exact h.elim
theorem gv_eq {d : D} {r : R D} (h : Gv (fun x => x = d) r) : r = .ok d := by
  obtain ⟨x, e, rfl⟩ := h
  exact e
theorem rng_at {lo hi : Int} {i : Nat} {d : D} (h : (rngD lo hi)[i]? = some d) : i < (hi - lo).toNat ∧ d = .int (lo + i) := rng_get h
@[simp] theorem rng_len (lo hi : Int) : (rngD lo hi).length = (hi - lo).toNat := by simp [rngD]
theorem o_rg1 (j : Int) (h : rsm j = true) : rngS [.int j] = some (rngD 0 j) := by
  show (if rsm j = true then _ else _) = _
  rw [if_pos h]
theorem o_rg2 (i j : Int) (h : rsm i = true) (h' : rsm j = true) : rngS [.int i, .int j] = some (rngD i j) := by
  show (if (rsm i && rsm j) = true then _ else _) = _
  rw [if_pos (by rw [h, h']; rfl)]
theorem rsm_nat {n : Nat} (h : n ≤ 1000000) : rsm (n : Int) = true := by
  exact smI_iff.mpr ⟨by omega, by omega⟩
/-- numbers as data -/
def nD (r : List Nat) : List D := r.map fun (x : Nat) => .int (x : Int)
@[simp] theorem nD_len (r : List Nat) : (nD r).length = r.length := by simp [nD]
theorem nD_app (r s : List Nat) : nD (r ++ s) = nD r ++ nD s := by simp [nD]
theorem nD_get {r : List Nat} {i x : Nat} (h : r[i]? = some x) : (nD r)[i]? = some (.int (x : Int)) := by simp [nD, h]
end CH
namespace CH
open PySem PySem.Spec PyProof.Rows L2
theorem compL_fm {bd : D → Option (List Sl)} {test : M Bool} {elt : M D} (p : D → Bool) (g : D → D) : ∀ {ds : List D}, (∀ d ∈ ds, ∃ ρ, bd d = some ρ ∧ test ρ = .ok (p d) ∧ (p d = true → elt ρ = .ok (g d))) → compL bd test elt ds = .ok ((ds.filter p).map g)
  | [], _ => rfl
  | d :: ds, h => by
    obtain ⟨ρ, e1, e2, e3⟩ := h d (List.mem_cons_self ..)
    have ih := compL_fm p g (ds := ds) fun d hd => h d (List.mem_cons_of_mem _ hd)
    rw [compL, e1, of_some, b_ok, e2, b_ok, ih]
    cases hp : p d with
    | true => rw [if_pos rfl, e3 hp, List.filter_cons_of_pos hp]; rfl
    | false => rw [if_neg Bool.false_ne_true, List.filter_cons_of_neg (by rw [hp]; exact Bool.false_ne_true)]
/-- without a test -/
theorem compL_m {bd : D → Option (List Sl)} {test : M Bool} {elt : M D} (g : D → D) {ds : List D} (h : ∀ d ∈ ds, ∃ ρ, bd d = some ρ ∧ test ρ = .ok true ∧ elt ρ = .ok (g d)) : compL bd test elt ds = .ok (ds.map g) := by
  rw [compL_fm (fun _ => true) g fun d hd => ?_, List.filter_eq_self.mpr fun _ _ => rfl]
  obtain ⟨ρ, e1, e2, e3⟩ := h d hd
  exact ⟨ρ, e1, e2, fun _ => e3⟩
/-! ### names -/
def smallS : Str := "abcdefghijklmnopqrstuvwxyz"
def isName (s : Str) : Bool := decide (1 ≤ s.length) && decide (s.length ≤ 3) && s.cps.toList.all fun c => decide (c ∈ smallS.cps.toList)
def isLeaf (s : Str) : Bool := decide (s = "K") || decide (s = "S") || isName s
def chD (c : Nat) : D := .str ⟨#[c]⟩
theorem it_str (s : Str) (h : s.length ≤ lim) : itemsS (.str s) = some (s.cps.toList.map chD) := by
  show (if s.length ≤ lim then _ else _) = _
  rw [if_pos h]; rfl
@[simp] theorem notin_ch (c : Nat) (z : Str) : dNotIn (chD c) (.str z) = some (.bool (!decide (c ∈ z.cps.toList))) := rfl
@[simp] theorem in_ch (c : Nat) (z : Str) : dIn (chD c) (.str z) = some (.bool (decide (c ∈ z.cps.toList))) := rfl
theorem slen (s : Str) : s.length = s.cps.toList.length := by simp [Str.length]
end CH
namespace CH
open PySem PySem.Spec PyProof.Rows L2
theorem compL_map {α : Type} {bd : D → Option (List Sl)} {test : M Bool} {elt : M D} (f : α → D) (p : α → Bool) (g : α → D) : ∀ {l : List α}, (∀ c ∈ l, ∃ ρ, bd (f c) = some ρ ∧ test ρ = .ok (p c) ∧ (p c = true → elt ρ = .ok (g c))) → compL bd test elt (l.map f) = .ok ((l.filter p).map g)
  | [], _ => rfl
  | d :: ds, h => by
    obtain ⟨ρ, e1, e2, e3⟩ := h d (List.mem_cons_self ..)
    have ih := compL_map f p g (l := ds) fun d hd => h d (List.mem_cons_of_mem _ hd)
    rw [List.map_cons, compL, e1, of_some, b_ok, e2, b_ok, ih]
    cases hp : p d with
    | true => rw [if_pos rfl, e3 hp, List.filter_cons_of_pos hp]; rfl
    | false => rw [if_neg Bool.false_ne_true, List.filter_cons_of_neg (by rw [hp]; exact Bool.false_ne_true)]
theorem small_ex {x : Int} (h1 : 0 ≤ x) : ∃ n : Nat, x = (n : Int) := ⟨x.toNat, by omega⟩
end CH

/-! CH 22: terms, in plain Lean. -/
namespace CH
open PySem PySem.Spec PyProof.Rows L2

inductive Tm where
  | lf (s : Str)
  | ap (a b : Tm)
  deriving DecidableEq
namespace Tm
def d : Tm → D
  | lf s => .str s
  | ap a b => .tuple [a.d, b.d]
/-- leaves -/
def lv : Tm → Nat
  | lf _ => 1
  | ap a b => a.lv + b.lv
/-- depth -/
def dp : Tm → Nat
  | lf _ => 0
  | ap a b => max a.dp b.dp + 1
def ok : Tm → Bool
  | lf s => isLeaf s
  | ap a b => a.ok && b.ok
theorem lv_pos : ∀ t : Tm, 1 ≤ t.lv
  | lf _ => Nat.le_refl _
  | ap a b => by have := lv_pos a; show 1 ≤ a.lv + b.lv; omega
theorem dp_lv : ∀ t : Tm, t.dp < t.lv
  | lf _ => Nat.lt_succ_self _
  | ap a b => by
    have := dp_lv a
    have := dp_lv b
    show max a.dp b.dp + 1 < a.lv + b.lv
    omega
theorem d_depth : ∀ t : Tm, t.d.depth = t.dp
  | lf _ => rfl
  | ap a b => by
    have := d_depth a
    have := d_depth b
    simp [d, PyData.depth, PyData.depthAll, dp, *]
theorem eqv_d : ∀ t u : Tm, PyData.eqv t.d u.d = decide (t = u)
  | lf a, lf b => by
    rw [d, d, eqv_str]
    by_cases h : a = b
    · simp [h]
    · simp [h]
  | lf a, ap b c => by simp [d, PyData.eqv]
  | ap b c, lf a => by simp [d, PyData.eqv]
  | ap a b, ap c e => by
    have h1 := eqv_d a c
    have h2 := eqv_d b e
    simp only [d, PyData.eqv, PyData.eqvAll, h1, h2, Bool.and_true]
    by_cases e1 : a = c <;> by_cases e2 : b = e <;> simp [e1, e2]
/-- what can be done at the top: 1 keeps, 2 shares -/
def deed : Tm → Nat
  | ap (ap (lf k) _) _ => if k = "K" then 1 else 0
  | ap (ap (ap (lf s) _) _) _ => if s = "S" then 2 else 0
  | _ => 0
def done : Tm → Tm
  | ap (ap (lf _) x) _ => x
  | ap (ap (ap (lf _) a) b) c => ap (ap a c) (ap b c)
  | t => t
def ways : Tm → List (List Nat)
  | lf _ => []
  | ap a b => (if deed (ap a b) ≠ 0 then [[]] else []) ++ ((ways a).map (0 :: ·) ++ (ways b).map (1 :: ·))
def part : Tm → List Nat → Option Tm
  | t, [] => some t
  | ap a _, 0 :: w => a.part w
  | ap _ b, 1 :: w => b.part w
  | _, _ => none
def put : Tm → List Nat → Tm → Tm
  | _, [], o => o
  | ap a b, 0 :: w, o => ap (a.put w o) b
  | ap a b, _ :: w, o => ap a (b.put w o)
  | t, _, _ => t
/-- one step, at a way that leads to one -/
def step (t : Tm) (w : List Nat) : Tm := match t.part w with
  | some u => t.put w u.done
  | none => t
end Tm
/-- how many leaves are left of m behind l, or -1 -/
def leftN (l m : Nat) : Int := if l ≤ m then (m : Int) - l else -1
theorem leftN_le {l m : Nat} (h : l ≤ m) : leftN l m = (m : Int) - l := if_pos h
theorem leftN_gt {l m : Nat} (h : ¬ l ≤ m) : leftN l m = -1 := if_neg h
/-- a way -/
def wD (w : List Nat) : D := .tuple (nD w)
/-- several ways -/
def wsD (ws : List (List Nat)) : D := .list (ws.map wD)
end CH
namespace CH
open PySem PySem.Spec PyProof.Rows L2
@[simp] theorem nD_cons (x : Nat) (w : List Nat) : nD (x :: w) = .int (x : Int) :: nD w := rfl
@[simp] theorem nD_nil : nD [] = [] := rfl
theorem cut_tail (x : D) (xs : List D) : cutD (x :: xs) (some 1) none = xs := by
  unfold cutD
  rw [show HT.sIx (x :: xs).length 0 (some 1) = min 1 (x :: xs).length from HT.sIx_nat _ 0 1, HT.sIx_none]
  rw [show min 1 (x :: xs).length = 1 by rw [List.length_cons]; omega]
  show (List.take ((x :: xs).length - 1) xs) = xs
  rw [List.length_cons, Nat.add_sub_cancel]
  exact List.take_length
theorem eq_tnil (xs : List D) : dEq (.tuple xs) (.tuple []) = some (.bool xs.isEmpty) := by
  rw [dEq_of _ _ (by simp [PyData.depth, PyData.depthAll])]
  cases xs <;> simp [PyData.eqv, PyData.eqvAll]
theorem tru_S (s : Str) (h : s.length ≤ lim) : dTru (.str s) = some (s.length != 0) := by
  show (if s.length ≤ lim then _ else _) = _
  rw [if_pos h]
def deedS : Nat → Str
  | 0 => ""
  | 1 => "K"
  | _ => "S"
theorem tru_deed (n : Nat) : dTru (.str (deedS n)) = some (decide (n ≠ 0)) := by
  match n with
  | 0 => decide +kernel
  | 1 => decide +kernel
  | n + 2 => 
    show dTru (.str "S") = some (decide (n + 2 ≠ 0))
    rw [show decide (n + 2 ≠ 0) = true by simp]
    decide +kernel
end CH
namespace CH
open PySem PySem.Spec PyProof.Rows L2
namespace Tm
theorem part_nil (t : Tm) : t.part [] = some t := by cases t <;> simp [part]
theorem ways_part : ∀ (t : Tm) (w : List Nat), w ∈ t.ways → ∃ u, t.part w = some u ∧ u.deed ≠ 0
  | lf _, w, h => by cases h
  | ap a b, w, h => by
    simp only [ways, List.mem_append, List.mem_map] at h
    rcases h with h | ⟨v, hv, rfl⟩ | ⟨v, hv, rfl⟩
    · split at h
      · rename_i hd
        rw [List.mem_singleton.mp h]
        exact ⟨ap a b, part_nil _, hd⟩
      · cases h
    · exact ways_part a v hv
    · exact ways_part b v hv
theorem done_okk : ∀ t : Tm, t.ok = true → t.done.ok = true
  | lf _, h => h
  | ap (lf _) _, h => h
  | ap (ap (lf _) x) y, h => by simp [ok] at h ⊢; simp [done]; exact h.1.2
  | ap (ap (ap (lf _) a) b) c, h => by
    simp [ok] at h
    simp [done, ok, h]
  | ap (ap (ap (ap _ _) a) b) c, h => h
theorem part_okk : ∀ (t : Tm) (w : List Nat) (u : Tm), t.part w = some u → t.ok = true → u.ok = true
  | t, [], u, h, ho => by rw [part_nil] at h; cases h; exact ho
  | lf _, x :: w, u, h, ho => by simp [part] at h
  | ap a b, 0 :: w, u, h, ho => part_okk a w u h (by simp [ok] at ho; exact ho.1)
  | ap a b, 1 :: w, u, h, ho => part_okk b w u h (by simp [ok] at ho; exact ho.2)
  | ap a b, (x + 2) :: w, u, h, ho => by simp [part] at h
theorem put_okk : ∀ (w : List Nat) (t o : Tm), t.ok = true → o.ok = true → (t.put w o).ok = true
  | [], t, o, ht, ho => by cases t <;> simpa [put] using ho
  | x :: w, lf s, o, ht, ho => by simpa [put] using ht
  | 0 :: w, ap a b, o, ht, ho => by
    simp [ok] at ht
    simp [put, ok, put_okk w a o ht.1 ho, ht.2]
  | (x + 1) :: w, ap a b, o, ht, ho => by
    simp [ok] at ht
    simp [put, ok, put_okk w b o ht.2 ho, ht.1]
theorem step_okk (t : Tm) (w : List Nat) (h : t.ok = true) : (t.step w).ok = true := by
  unfold step
  cases e : t.part w with
  | none => exact h
  | some u => exact put_okk w t u.done h (done_okk u (part_okk t w u e h))
theorem done_dp : ∀ t : Tm, t.done.dp ≤ t.dp + 1
  | lf _ => Nat.le_succ _
  | ap (lf _) _ => Nat.le_succ _
  | ap (ap (lf _) x) y => by simp [done, dp]; omega
  | ap (ap (ap (lf _) a) b) c => by simp [done, dp]; omega
  | ap (ap (ap (ap _ _) a) b) c => Nat.le_succ _
theorem put_dp : ∀ (w : List Nat) (t u o : Tm), t.part w = some u → o.dp ≤ u.dp + 1 → (t.put w o).dp ≤ t.dp + 1
  | [], t, u, o, h, ho => by rw [part_nil] at h; cases h; cases t <;> simpa [put] using ho
  | x :: w, lf s, u, o, h, ho => by simp [part] at h
  | 0 :: w, ap a b, u, o, h, ho => by
    have := put_dp w a u o h ho
    simp [put, dp]; omega
  | 1 :: w, ap a b, u, o, h, ho => by
    have := put_dp w b u o h ho
    simp [put, dp]; omega
  | (x + 2) :: w, ap a b, u, o, h, ho => by simp [part] at h
theorem step_dp (t : Tm) (w : List Nat) : (t.step w).dp ≤ t.dp + 1 := by
  unfold step
  cases e : t.part w with
  | none => exact Nat.le_succ _
  | some u => exact put_dp w t u u.done e (done_dp u)
/-- the first steps -/
def play : Nat → Tm → Tm × List (List Nat)
  | 0, t => (t, [])
  | n + 1, t => match t.ways with
    | [] => (t, [])
    | w :: _ => if (t.step w).lv ≤ 200 then ((play n (t.step w)).1, w :: (play n (t.step w)).2) else (t, [])
/-- the greatest depth on the way -/
def hi : Nat → Tm → Nat
  | 0, t => t.dp
  | n + 1, t => max t.dp (match t.ways with
    | [] => 0
    | w :: _ => if (t.step w).lv ≤ 200 then hi n (t.step w) else (t.step w).dp)
theorem hi_dp (n : Nat) (t : Tm) : t.dp ≤ hi n t := by
  cases n with
  | zero => exact Nat.le_refl _
  | succ n => exact Nat.le_max_left _ _
theorem hi_le : ∀ (n : Nat) (t : Tm), hi n t ≤ t.dp + n
  | 0, t => Nat.le_refl _
  | n + 1, t => by
    unfold hi
    cases e : t.ways with
    | nil => simp; 
    | cons w r =>
      have h1 := step_dp t w
      have h2 := hi_le n (t.step w)
      simp only
      split <;> omega
end Tm
end CH
namespace CH
open PySem PySem.Spec PyProof.Rows L2
namespace Tm
/-- where a row leads, if each is a step and nothing grows too big -/
def walk : Tm → List (List Nat) → Option Tm
  | t, [] => some t
  | t, w :: r => match t.part w with
    | some u => if u.deed ≠ 0 ∧ (t.step w).lv ≤ 200 then walk (t.step w) r else none
    | none => none
def whi : Tm → List (List Nat) → Nat
  | t, [] => t.dp
  | t, w :: r => max (max t.dp w.length) (whi (t.step w) r)
theorem play_walk : ∀ (n : Nat) (t : Tm), t.walk (play n t).2 = some (play n t).1
  | 0, t => rfl
  | n + 1, t => by
    unfold play
    cases e : t.ways with
    | nil => rfl
    | cons w r =>
      obtain ⟨u, h1, h2⟩ := ways_part t w (by rw [e]; exact List.mem_cons_self ..)
      simp only
      split
      · rename_i h
        simp only [walk, h1]
        rw [if_pos ⟨h2, h⟩]
        exact play_walk n _
      · rfl
end Tm
theorem tru_list (ds : List D) : dTru (.list ds) = some (!ds.isEmpty) := rfl
end CH
namespace CH
namespace Tm
theorem play_lv : ∀ (n : Nat) (t : Tm), t.lv ≤ 200 → (play n t).1.lv ≤ 200
  | 0, t, h => h
  | n + 1, t, h => by
    unfold play
    cases e : t.ways with
    | nil => exact h
    | cons w r =>
      simp only
      split
      · rename_i h2
        exact play_lv n _ h2
      · exact h
end Tm
end CH
namespace CH
open PySem
@[simp] theorem fill_full (x : Str) (n : Nat) (l : List D) : FInfo.fill ⟨x, n, l⟩ n = [] := by simp [FInfo.fill]
@[simp] theorem fill_21 (x : Str) (d : D) : FInfo.fill ⟨x, 2, [d]⟩ 1 = [d] := rfl
@[simp] theorem fill_32 (x : Str) (d : D) : FInfo.fill ⟨x, 3, [d]⟩ 2 = [d] := rfl
@[simp] theorem fill_43 (x : Str) (d : D) : FInfo.fill ⟨x, 4, [d]⟩ 3 = [d] := rfl
end CH

/-! the defs of copyhands_k26_whole_sums_and_products in the small language (printed) -/
namespace K26
open PySem PySem.Spec PyProof.Rows L2 CH
def tp (i : Nat) : Stmt := PySem.Challenge.pw_copyhands_k26_whole_sums_and_products.main.body.getD i (.Pass ⟨0, 0, 0, 0⟩)
abbrev s0 : Stmt := tp 9
abbrev f_is_within : Nat := 0
abbrev s1 : Stmt := tp 10
abbrev f_is_name : Nat := 1
abbrev s2 : Stmt := tp 11
abbrev f_is_leaf : Nat := 2
abbrev s3 : Stmt := tp 12
abbrev f_left_of : Nat := 3
abbrev s4 : Stmt := tp 13
abbrev f_is_term : Nat := 4
abbrev s5 : Stmt := tp 14
abbrev f_checked : Nat := 5
abbrev s6 : Stmt := tp 15
abbrev f_looked : Nat := 6
abbrev s7 : Stmt := tp 18
abbrev f_deed_of : Nat := 7
abbrev s8 : Stmt := tp 19
abbrev f_done : Nat := 8
abbrev s9 : Stmt := tp 20
abbrev f_ways_of : Nat := 9
abbrev s10 : Stmt := tp 21
abbrev f_part_at : Nat := 10
abbrev s11 : Stmt := tp 22
abbrev f_with_part : Nat := 11
abbrev s12 : Stmt := tp 23
abbrev f_look_way : Nat := 12
abbrev s13 : Stmt := tp 24
abbrev f_step_to : Nat := 13
abbrev s14 : Stmt := tp 25
abbrev f_led : Nat := 14
abbrev s15 : Stmt := tp 26
abbrev f_played : Nat := 15
abbrev s16 : Stmt := tp 33
abbrev f_number_term : Nat := 16
abbrev s17 : Stmt := tp 34
abbrev f_more : Nat := 17
abbrev s18 : Stmt := tp 35
abbrev f_plus : Nat := 18
abbrev s19 : Stmt := tp 36
abbrev f_times : Nat := 19
abbrev s20 : Stmt := tp 37
abbrev f_counted : Nat := 20
abbrev s21 : Stmt := tp 39
abbrev f__law_cell : Nat := 21
abbrev s22 : Stmt := tp 40
abbrev f__law_row : Nat := 22
abbrev s23 : Stmt := tp 41
abbrev f__law_name : Nat := 23
abbrev s24 : Stmt := tp 42
abbrev f_law : Nat := 24
/-- is_within -/
def b_is_within : Ss := (.cons (.ret (.bop .And (.cons (.isi .int (.var 0 "thing" ⟨19,22,19,27⟩) ⟨19,11,19,21⟩ ⟨19,29,19,32⟩ ⟨19,11,19,33⟩) (.cons (.not (.isi .bool (.var 0 "thing" ⟨19,54,19,59⟩) ⟨19,43,19,53⟩ ⟨19,61,19,65⟩ ⟨19,43,19,66⟩) ⟨19,39,19,66⟩) (.cons (.chn .LtE .LtE (.var 1 "low" ⟨19,73,19,76⟩) (.var 0 "thing" ⟨19,80,19,85⟩) (.var 2 "high" ⟨19,89,19,93⟩) ⟨19,73,19,93⟩) .nil))) ⟨19,11,19,94⟩) ⟨19,4,19,94⟩)
  .nil)
/-- is_name -/
def b_is_name : Ss := (.cons (.ret (.bop .And (.cons (.isi .str (.var 0 "thing" ⟨21,22,21,27⟩) ⟨21,11,21,21⟩ ⟨21,29,21,32⟩ ⟨21,11,21,33⟩) (.cons (.chn .LtE .LtE (.cst (.int 1) 0 ⟨21,38,21,39⟩) (.bi .len (.var 0 "thing" ⟨21,47,21,52⟩) ⟨21,43,21,46⟩ ⟨21,43,21,53⟩) (.cst (.int 3) 0 ⟨21,57,21,58⟩) ⟨21,38,21,58⟩) (.cons (.not (.comp (.var 1 "sign" ⟨21,69,21,73⟩) (.one 1 "sign" ⟨21,78,21,82⟩) (.seq (.var 0 "thing" ⟨21,86,21,91⟩)) (.cons (.cmp .NotIn (.var 1 "sign" ⟨21,95,21,99⟩) (.glob 1 "SMALL" ⟨21,107,21,112⟩) ⟨21,95,21,112⟩) .nil) (cSc [(".0", .local), ("sign", .local), ("SMALL", .globalImplicit)]) [("sign", 1)] ⟨21,68,21,113⟩) ⟨21,64,21,113⟩) .nil))) ⟨21,11,21,114⟩) ⟨21,4,21,114⟩)
  .nil)
/-- is_leaf -/
def b_is_leaf : Ss := (.cons (.ret (.bop .And (.cons (.isi .str (.var 0 "thing" ⟨23,22,23,27⟩) ⟨23,11,23,21⟩ ⟨23,29,23,32⟩ ⟨23,11,23,33⟩) (.cons (.bop .Or (.cons (.cmp .Eq (.var 0 "thing" ⟨23,39,23,44⟩) (.cst (.str "K") 0 ⟨23,48,23,51⟩) ⟨23,39,23,51⟩) (.cons (.cmp .Eq (.var 0 "thing" ⟨23,55,23,60⟩) (.cst (.str "S") 0 ⟨23,64,23,67⟩) ⟨23,55,23,67⟩) (.cons (.call 1 "is_name" (.cons (.var 0 "thing" ⟨23,79,23,84⟩) .nil) ⟨23,71,23,78⟩ ⟨23,71,23,85⟩) .nil))) ⟨23,39,23,85⟩) .nil)) ⟨23,11,23,86⟩) ⟨23,4,23,86⟩)
  .nil)
/-- left_of -/
def b_left_of : Ss := (.cons (.ite (.isi .tuple (.var 0 "thing" ⟨25,18,25,23⟩) ⟨25,7,25,17⟩ ⟨25,25,25,30⟩ ⟨25,7,25,31⟩) (.cons (.ite (.bop .Or (.cons (.cmp .NotEq (.bi .len (.var 0 "thing" ⟨26,15,26,20⟩) ⟨26,11,26,14⟩ ⟨26,11,26,21⟩) (.cst (.int 2) 0 ⟨26,25,26,26⟩) ⟨26,11,26,26⟩) (.cons (.cmp .Lt (.var 1 "left" ⟨26,30,26,34⟩) (.cst (.int 2) 0 ⟨26,37,26,38⟩) ⟨26,30,26,38⟩) .nil)) ⟨26,11,26,38⟩) (.cons (.ret (.neg (.cst (.int 1) 0 ⟨27,20,27,21⟩) ⟨27,19,27,21⟩) ⟨27,12,27,21⟩)
  .nil) .nil ⟨26,8,27,21⟩)
  (.cons (.set 1 "left" (.call 3 "left_of" (.cons (.ix (.var 0 "thing" ⟨28,23,28,28⟩) (.cst (.int 0) 0 ⟨28,29,28,30⟩) ⟨28,23,28,31⟩) (.cons (.bin .Sub (.var 1 "left" ⟨28,33,28,37⟩) (.cst (.int 1) 0 ⟨28,40,28,41⟩) ⟨28,33,28,41⟩) .nil)) ⟨28,15,28,22⟩ ⟨28,15,28,42⟩) ⟨28,8,28,12⟩ ⟨28,8,28,42⟩)
  (.cons (.ret (.ife (.cmp .Lt (.var 1 "left" ⟨29,21,29,25⟩) (.cst (.int 0) 0 ⟨29,28,29,29⟩) ⟨29,21,29,29⟩) (.neg (.cst (.int 1) 0 ⟨29,16,29,17⟩) ⟨29,15,29,17⟩) (.call 3 "left_of" (.cons (.ix (.var 0 "thing" ⟨29,43,29,48⟩) (.cst (.int 1) 0 ⟨29,49,29,50⟩) ⟨29,43,29,51⟩) (.cons (.bin .Add (.var 1 "left" ⟨29,53,29,57⟩) (.cst (.int 1) 0 ⟨29,60,29,61⟩) ⟨29,53,29,61⟩) .nil)) ⟨29,35,29,42⟩ ⟨29,35,29,62⟩) ⟨29,15,29,62⟩) ⟨29,8,29,62⟩)
  .nil))) .nil ⟨25,4,29,62⟩)
  (.cons (.ret (.ife (.call 2 "is_leaf" (.cons (.var 0 "thing" ⟨30,31,30,36⟩) .nil) ⟨30,23,30,30⟩ ⟨30,23,30,37⟩) (.bin .Sub (.var 1 "left" ⟨30,11,30,15⟩) (.cst (.int 1) 0 ⟨30,18,30,19⟩) ⟨30,11,30,19⟩) (.neg (.cst (.int 1) 0 ⟨30,44,30,45⟩) ⟨30,43,30,45⟩) ⟨30,11,30,45⟩) ⟨30,4,30,45⟩)
  .nil))
/-- is_term -/
def b_is_term : Ss := (.cons (.ret (.cmp .GtE (.call 3 "left_of" (.cons (.var 0 "thing" ⟨32,19,32,24⟩) (.cons (.glob 0 "MOST_LEAVES" ⟨32,26,32,37⟩) .nil)) ⟨32,11,32,18⟩ ⟨32,11,32,38⟩) (.cst (.int 0) 0 ⟨32,42,32,43⟩) ⟨32,11,32,43⟩) ⟨32,4,32,43⟩)
  .nil)
/-- checked -/
def b_checked : Ss := (.cons (.ite (.not (.call 4 "is_term" (.cons (.var 0 "term" ⟨34,19,34,23⟩) .nil) ⟨34,11,34,18⟩ ⟨34,11,34,24⟩) ⟨34,7,34,24⟩) (.cons (.rais 1 "BadTerm" "no term" 0 ⟨35,14,35,21⟩ ⟨35,22,35,31⟩ ⟨35,14,35,32⟩ ⟨35,8,35,32⟩)
  .nil) .nil ⟨34,4,35,32⟩)
  (.cons (.ret (.var 0 "term" ⟨36,11,36,15⟩) ⟨36,4,36,15⟩)
  .nil))
/-- looked -/
def b_looked : Ss := (.cons (.ite (.not (.call 4 "is_term" (.cons (.var 0 "term" ⟨38,19,38,23⟩) .nil) ⟨38,11,38,18⟩ ⟨38,11,38,24⟩) ⟨38,7,38,24⟩) (.cons (.rais 4 "TooBig" "too many leaves" 0 ⟨39,14,39,20⟩ ⟨39,21,39,38⟩ ⟨39,14,39,39⟩ ⟨39,8,39,39⟩)
  .nil) .nil ⟨38,4,39,39⟩)
  (.cons (.ret (.var 0 "term" ⟨40,11,40,15⟩) ⟨40,4,40,15⟩)
  .nil))
/-- deed_of -/
def b_deed_of : Ss := (.cons (.ite (.bop .And (.cons (.isi .tuple (.var 0 "term" ⟨44,18,44,22⟩) ⟨44,7,44,17⟩ ⟨44,24,44,29⟩ ⟨44,7,44,30⟩) (.cons (.isi .tuple (.ix (.var 0 "term" ⟨44,46,44,50⟩) (.cst (.int 0) 0 ⟨44,51,44,52⟩) ⟨44,46,44,53⟩) ⟨44,35,44,45⟩ ⟨44,55,44,60⟩ ⟨44,35,44,61⟩) .nil)) ⟨44,7,44,61⟩) (.cons (.ite (.cmp .Eq (.ix (.ix (.var 0 "term" ⟨45,11,45,15⟩) (.cst (.int 0) 0 ⟨45,16,45,17⟩) ⟨45,11,45,18⟩) (.cst (.int 0) 0 ⟨45,19,45,20⟩) ⟨45,11,45,21⟩) (.cst (.str "K") 0 ⟨45,25,45,28⟩) ⟨45,11,45,28⟩) (.cons (.ret (.cst (.str "K") 0 ⟨46,19,46,22⟩) ⟨46,12,46,22⟩)
  .nil) .nil ⟨45,8,46,22⟩)
  (.cons (.ite (.bop .And (.cons (.isi .tuple (.ix (.ix (.var 0 "term" ⟨47,22,47,26⟩) (.cst (.int 0) 0 ⟨47,27,47,28⟩) ⟨47,22,47,29⟩) (.cst (.int 0) 0 ⟨47,30,47,31⟩) ⟨47,22,47,32⟩) ⟨47,11,47,21⟩ ⟨47,34,47,39⟩ ⟨47,11,47,40⟩) (.cons (.cmp .Eq (.ix (.ix (.ix (.var 0 "term" ⟨47,45,47,49⟩) (.cst (.int 0) 0 ⟨47,50,47,51⟩) ⟨47,45,47,52⟩) (.cst (.int 0) 0 ⟨47,53,47,54⟩) ⟨47,45,47,55⟩) (.cst (.int 0) 0 ⟨47,56,47,57⟩) ⟨47,45,47,58⟩) (.cst (.str "S") 0 ⟨47,62,47,65⟩) ⟨47,45,47,65⟩) .nil)) ⟨47,11,47,65⟩) (.cons (.ret (.cst (.str "S") 0 ⟨48,19,48,22⟩) ⟨48,12,48,22⟩)
  .nil) .nil ⟨47,8,48,22⟩)
  .nil)) .nil ⟨44,4,48,22⟩)
  (.cons (.ret (.cst (.str "") 0 ⟨49,11,49,13⟩) ⟨49,4,49,13⟩)
  .nil))
/-- done -/
def b_done : Ss := (.cons (.ite (.cmp .Eq (.call 7 "deed_of" (.cons (.var 0 "term" ⟨51,15,51,19⟩) .nil) ⟨51,7,51,14⟩ ⟨51,7,51,20⟩) (.cst (.str "K") 0 ⟨51,24,51,27⟩) ⟨51,7,51,27⟩) (.cons (.ret (.ix (.ix (.var 0 "term" ⟨52,15,52,19⟩) (.cst (.int 0) 0 ⟨52,20,52,21⟩) ⟨52,15,52,22⟩) (.cst (.int 1) 0 ⟨52,23,52,24⟩) ⟨52,15,52,25⟩) ⟨52,8,52,25⟩)
  .nil) .nil ⟨51,4,52,25⟩)
  (.cons (.par3 1 "first" ⟨53,4,53,9⟩ 2 "then" ⟨53,11,53,15⟩ 3 "shared" ⟨53,17,53,23⟩ 0 ⟨53,4,53,23⟩ (.ix (.ix (.ix (.var 0 "term" ⟨53,27,53,31⟩) (.cst (.int 0) 0 ⟨53,32,53,33⟩) ⟨53,27,53,34⟩) (.cst (.int 0) 0 ⟨53,35,53,36⟩) ⟨53,27,53,37⟩) (.cst (.int 1) 0 ⟨53,38,53,39⟩) ⟨53,27,53,40⟩) (.ix (.ix (.var 0 "term" ⟨53,42,53,46⟩) (.cst (.int 0) 0 ⟨53,47,53,48⟩) ⟨53,42,53,49⟩) (.cst (.int 1) 0 ⟨53,50,53,51⟩) ⟨53,42,53,52⟩) (.ix (.var 0 "term" ⟨53,54,53,58⟩) (.cst (.int 1) 0 ⟨53,59,53,60⟩) ⟨53,54,53,61⟩) 0 ⟨53,26,53,62⟩ ⟨53,4,53,62⟩)
  (.cons (.ret (.tup (.cons (.tup (.cons (.var 1 "first" ⟨54,13,54,18⟩) (.cons (.var 3 "shared" ⟨54,20,54,26⟩) .nil)) 0 ⟨54,12,54,27⟩) (.cons (.tup (.cons (.var 2 "then" ⟨54,30,54,34⟩) (.cons (.var 3 "shared" ⟨54,36,54,42⟩) .nil)) 0 ⟨54,29,54,43⟩) .nil)) 0 ⟨54,11,54,44⟩) ⟨54,4,54,44⟩)
  .nil)))
/-- ways_of -/
def b_ways_of : Ss := (.cons (.ite (.isi .str (.var 0 "term" ⟨56,18,56,22⟩) ⟨56,7,56,17⟩ ⟨56,24,56,27⟩ ⟨56,7,56,28⟩) (.cons (.ret (.lst .nil ⟨57,15,57,17⟩) ⟨57,8,57,17⟩)
  .nil) .nil ⟨56,4,57,17⟩)
  (.cons (.setF 1 "found" (.ife (.call 7 "deed_of" (.cons (.var 0 "term" ⟨58,28,58,32⟩) .nil) ⟨58,20,58,27⟩ ⟨58,20,58,33⟩) (.cons (.tup .nil 0 ⟨58,13,58,15⟩) .nil) .nil ⟨58,12,58,16⟩ ⟨58,39,58,41⟩ ⟨58,12,58,41⟩) ⟨58,4,58,9⟩ ⟨58,4,58,41⟩)
  (.cons (.ext 1 "found" (.comp (.bin .Add (.tup (.cons (.cst (.int 0) 0 ⟨59,19,59,20⟩) .nil) 0 ⟨59,18,59,22⟩) (.var 2 "way" ⟨59,25,59,28⟩) ⟨59,18,59,28⟩) (.one 2 "way" ⟨59,33,59,36⟩) (.seq (.call 9 "ways_of" (.cons (.ix (.var 0 "term" ⟨59,48,59,52⟩) (.cst (.int 0) 0 ⟨59,53,59,54⟩) ⟨59,48,59,55⟩) .nil) ⟨59,40,59,47⟩ ⟨59,40,59,56⟩)) .nil (cSc [(".0", .local), ("way", .local)]) [("way", 2)] ⟨59,17,59,57⟩) ⟨59,4,59,9⟩ ⟨59,4,59,16⟩ ⟨59,4,59,58⟩ ⟨59,4,59,58⟩)
  (.fz 1 (.cons (.ret (.bin .Add (.var 1 "found" ⟨60,11,60,16⟩) (.comp (.bin .Add (.tup (.cons (.cst (.int 1) 0 ⟨60,21,60,22⟩) .nil) 0 ⟨60,20,60,24⟩) (.var 2 "way" ⟨60,27,60,30⟩) ⟨60,20,60,30⟩) (.one 2 "way" ⟨60,35,60,38⟩) (.seq (.call 9 "ways_of" (.cons (.ix (.var 0 "term" ⟨60,50,60,54⟩) (.cst (.int 1) 0 ⟨60,55,60,56⟩) ⟨60,50,60,57⟩) .nil) ⟨60,42,60,49⟩ ⟨60,42,60,58⟩)) .nil (cSc [(".0", .local), ("way", .local)]) [("way", 2)] ⟨60,19,60,59⟩) ⟨60,11,60,59⟩) ⟨60,4,60,59⟩)
  .nil)))))
/-- part_at -/
def b_part_at : Ss := (.cons (.ite (.not (.isi .tuple (.var 1 "way" ⟨62,22,62,25⟩) ⟨62,11,62,21⟩ ⟨62,27,62,32⟩ ⟨62,11,62,33⟩) ⟨62,7,62,33⟩) (.cons (.ret (.cst .none 0 ⟨63,15,63,19⟩) ⟨63,8,63,19⟩)
  .nil) .nil ⟨62,4,63,19⟩)
  (.cons (.for_ (.one 2 "side" ⟨64,8,64,12⟩) (.seq (.var 1 "way" ⟨64,16,64,19⟩)) (.cons (.ite (.bop .Or (.cons (.not (.isi .tuple (.var 0 "term" ⟨65,26,65,30⟩) ⟨65,15,65,25⟩ ⟨65,32,65,37⟩ ⟨65,15,65,38⟩) ⟨65,11,65,38⟩) (.cons (.not (.call 0 "is_within" (.cons (.var 2 "side" ⟨65,56,65,60⟩) (.cons (.cst (.int 0) 0 ⟨65,62,65,63⟩) (.cons (.cst (.int 1) 0 ⟨65,65,65,66⟩) .nil))) ⟨65,46,65,55⟩ ⟨65,46,65,67⟩) ⟨65,42,65,67⟩) .nil)) ⟨65,11,65,67⟩) (.cons (.ret (.cst .none 0 ⟨66,19,66,23⟩) ⟨66,12,66,23⟩)
  .nil) .nil ⟨65,8,66,23⟩)
  (.cons (.set 0 "term" (.ix (.var 0 "term" ⟨67,15,67,19⟩) (.var 2 "side" ⟨67,20,67,24⟩) ⟨67,15,67,25⟩) ⟨67,8,67,12⟩ ⟨67,8,67,25⟩)
  .nil)) ⟨64,4,67,25⟩)
  (.cons (.ret (.var 0 "term" ⟨68,11,68,15⟩) ⟨68,4,68,15⟩)
  .nil)))
/-- with_part -/
def b_with_part : Ss := (.cons (.ite (.cmp .Eq (.var 1 "way" ⟨70,7,70,10⟩) (.tup .nil 0 ⟨70,14,70,16⟩) ⟨70,7,70,16⟩) (.cons (.ret (.var 2 "other" ⟨71,15,71,20⟩) ⟨71,8,71,20⟩)
  .nil) .nil ⟨70,4,71,20⟩)
  (.cons (.ite (.cmp .Eq (.ix (.var 1 "way" ⟨72,7,72,10⟩) (.cst (.int 0) 0 ⟨72,11,72,12⟩) ⟨72,7,72,13⟩) (.cst (.int 0) 0 ⟨72,17,72,18⟩) ⟨72,7,72,18⟩) (.cons (.ret (.tup (.cons (.call 11 "with_part" (.cons (.ix (.var 0 "term" ⟨73,26,73,30⟩) (.cst (.int 0) 0 ⟨73,31,73,32⟩) ⟨73,26,73,33⟩) (.cons (.sl (.var 1 "way" ⟨73,35,73,38⟩) (.so (.cst (.int 1) 0 ⟨73,39,73,40⟩)) .no ⟨73,35,73,42⟩ ⟨73,39,73,41⟩) (.cons (.var 2 "other" ⟨73,44,73,49⟩) .nil))) ⟨73,16,73,25⟩ ⟨73,16,73,50⟩) (.cons (.ix (.var 0 "term" ⟨73,52,73,56⟩) (.cst (.int 1) 0 ⟨73,57,73,58⟩) ⟨73,52,73,59⟩) .nil)) 0 ⟨73,15,73,60⟩) ⟨73,8,73,60⟩)
  .nil) .nil ⟨72,4,73,60⟩)
  (.cons (.ret (.tup (.cons (.ix (.var 0 "term" ⟨74,12,74,16⟩) (.cst (.int 0) 0 ⟨74,17,74,18⟩) ⟨74,12,74,19⟩) (.cons (.call 11 "with_part" (.cons (.ix (.var 0 "term" ⟨74,31,74,35⟩) (.cst (.int 1) 0 ⟨74,36,74,37⟩) ⟨74,31,74,38⟩) (.cons (.sl (.var 1 "way" ⟨74,40,74,43⟩) (.so (.cst (.int 1) 0 ⟨74,44,74,45⟩)) .no ⟨74,40,74,47⟩ ⟨74,44,74,46⟩) (.cons (.var 2 "other" ⟨74,49,74,54⟩) .nil))) ⟨74,21,74,30⟩ ⟨74,21,74,55⟩) .nil)) 0 ⟨74,11,74,56⟩) ⟨74,4,74,56⟩)
  .nil)))
/-- look_way -/
def b_look_way : Ss := (.cons (.set 2 "found" (.call 10 "part_at" (.cons (.var 0 "term" ⟨76,20,76,24⟩) (.cons (.var 1 "way" ⟨76,26,76,29⟩) .nil)) ⟨76,12,76,19⟩ ⟨76,12,76,30⟩) ⟨76,4,76,9⟩ ⟨76,4,76,30⟩)
  (.cons (.ite (.bop .Or (.cons (.cmp .Is (.var 2 "found" ⟨77,7,77,12⟩) (.cst .none 0 ⟨77,16,77,20⟩) ⟨77,7,77,20⟩) (.cons (.not (.call 7 "deed_of" (.cons (.var 2 "found" ⟨77,36,77,41⟩) .nil) ⟨77,28,77,35⟩ ⟨77,28,77,42⟩) ⟨77,24,77,42⟩) .nil)) ⟨77,7,77,42⟩) (.cons (.raisF 2 "BadWay" (.var 1 "way" ⟨78,21,78,24⟩) ⟨78,14,78,20⟩ ⟨78,14,78,25⟩ ⟨78,8,78,25⟩)
  .nil) .nil ⟨77,4,78,25⟩)
  (.cons (.ret (.var 2 "found" ⟨79,11,79,16⟩) ⟨79,4,79,16⟩)
  .nil)))
/-- step_to -/
def b_step_to : Ss := (.cons (.ret (.call 11 "with_part" (.cons (.var 0 "term" ⟨81,21,81,25⟩) (.cons (.var 1 "way" ⟨81,27,81,30⟩) (.cons (.call 8 "done" (.cons (.call 12 "look_way" (.cons (.var 0 "term" ⟨81,46,81,50⟩) (.cons (.var 1 "way" ⟨81,52,81,55⟩) .nil)) ⟨81,37,81,45⟩ ⟨81,37,81,56⟩) .nil) ⟨81,32,81,36⟩ ⟨81,32,81,57⟩) .nil))) ⟨81,11,81,20⟩ ⟨81,11,81,58⟩) ⟨81,4,81,58⟩)
  .nil)
/-- led -/
def b_led : Ss := (.cons (.expr (.call 5 "checked" (.cons (.var 0 "term" ⟨83,12,83,16⟩) .nil) ⟨83,4,83,11⟩ ⟨83,4,83,17⟩) ⟨83,4,83,17⟩)
  (.cons (.for_ (.one 2 "way" ⟨84,8,84,11⟩) (.seq (.var 1 "row" ⟨84,15,84,18⟩)) (.cons (.set 0 "term" (.call 6 "looked" (.cons (.call 13 "step_to" (.cons (.var 0 "term" ⟨85,30,85,34⟩) (.cons (.var 2 "way" ⟨85,36,85,39⟩) .nil)) ⟨85,22,85,29⟩ ⟨85,22,85,40⟩) .nil) ⟨85,15,85,21⟩ ⟨85,15,85,41⟩) ⟨85,8,85,12⟩ ⟨85,8,85,41⟩)
  .nil) ⟨84,4,85,41⟩)
  (.cons (.ret (.var 0 "term" ⟨86,11,86,15⟩) ⟨86,4,86,15⟩)
  .nil)))
/-- played -/
def b_played : Ss := (.cons (.expr (.call 5 "checked" (.cons (.var 0 "term" ⟨88,12,88,16⟩) .nil) ⟨88,4,88,11⟩ ⟨88,4,88,17⟩) ⟨88,4,88,17⟩)
  (.cons (.ite (.not (.call 0 "is_within" (.cons (.var 1 "most" ⟨89,21,89,25⟩) (.cons (.cst (.int 0) 0 ⟨89,27,89,28⟩) (.cons (.glob 2 "MOST_PLAYED" ⟨89,30,89,41⟩) .nil))) ⟨89,11,89,20⟩ ⟨89,11,89,42⟩) ⟨89,7,89,42⟩) (.cons (.rais 3 "BadCount" "no number of steps" 0 ⟨90,14,90,22⟩ ⟨90,23,90,43⟩ ⟨90,14,90,44⟩ ⟨90,8,90,44⟩)
  .nil) .nil ⟨89,4,90,44⟩)
  (.cons (.setF 2 "row" (.lst .nil ⟨91,10,91,12⟩) ⟨91,4,91,7⟩ ⟨91,4,91,12⟩)
  (.cons (.while_ (.cmp .Lt (.leno 2 "row" ⟨92,10,92,13⟩ ⟨92,14,92,17⟩ ⟨92,10,92,18⟩) (.var 1 "most" ⟨92,21,92,25⟩) ⟨92,10,92,25⟩) (.cons (.set 3 "some" (.call 9 "ways_of" (.cons (.var 0 "term" ⟨93,23,93,27⟩) .nil) ⟨93,15,93,22⟩ ⟨93,15,93,28⟩) ⟨93,8,93,12⟩ ⟨93,8,93,28⟩)
  (.cons (.ite (.bop .Or (.cons (.not (.var 3 "some" ⟨94,15,94,19⟩) ⟨94,11,94,19⟩) (.cons (.not (.call 4 "is_term" (.cons (.call 13 "step_to" (.cons (.var 0 "term" ⟨94,43,94,47⟩) (.cons (.ix (.var 3 "some" ⟨94,49,94,53⟩) (.cst (.int 0) 0 ⟨94,54,94,55⟩) ⟨94,49,94,56⟩) .nil)) ⟨94,35,94,42⟩ ⟨94,35,94,57⟩) .nil) ⟨94,27,94,34⟩ ⟨94,27,94,58⟩) ⟨94,23,94,58⟩) .nil)) ⟨94,11,94,58⟩) (.fz 2 (.cons (.ret (.tup (.cons (.var 0 "term" ⟨95,20,95,24⟩) (.cons (.var 2 "row" ⟨95,26,95,29⟩) .nil)) 0 ⟨95,19,95,30⟩) ⟨95,12,95,30⟩)
  .nil)) .nil ⟨94,8,95,30⟩)
  (.cons (.app 2 "row" (.ix (.var 3 "some" ⟨96,19,96,23⟩) (.cst (.int 0) 0 ⟨96,24,96,25⟩) ⟨96,19,96,26⟩) ⟨96,8,96,11⟩ ⟨96,8,96,18⟩ ⟨96,8,96,27⟩ ⟨96,8,96,27⟩)
  (.cons (.set 0 "term" (.call 13 "step_to" (.cons (.var 0 "term" ⟨97,23,97,27⟩) (.cons (.ix (.var 3 "some" ⟨97,29,97,33⟩) (.cst (.int 0) 0 ⟨97,34,97,35⟩) ⟨97,29,97,36⟩) .nil)) ⟨97,15,97,22⟩ ⟨97,15,97,37⟩) ⟨97,8,97,12⟩ ⟨97,8,97,37⟩)
  .nil)))) ⟨92,4,97,37⟩)
  (.fz 2 (.cons (.ret (.tup (.cons (.var 0 "term" ⟨98,12,98,16⟩) (.cons (.var 2 "row" ⟨98,18,98,21⟩) .nil)) 0 ⟨98,11,98,22⟩) ⟨98,4,98,22⟩)
  .nil))))))
/-- number_term -/
def b_number_term : Ss := (.cons (.ite (.not (.call 0 "is_within" (.cons (.var 0 "number" ⟨106,21,106,27⟩) (.cons (.cst (.int 0) 0 ⟨106,29,106,30⟩) (.cons (.glob 4 "MOST_NUMBER" ⟨106,32,106,43⟩) .nil))) ⟨106,11,106,20⟩ ⟨106,11,106,44⟩) ⟨106,7,106,44⟩) (.cons (.rais 3 "BadCount" "no number" 0 ⟨107,14,107,22⟩ ⟨107,23,107,34⟩ ⟨107,14,107,35⟩ ⟨107,8,107,35⟩)
  .nil) .nil ⟨106,4,107,35⟩)
  (.cons (.set 1 "found" (.tup (.cons (.cst (.str "K") 0 ⟨108,13,108,16⟩) (.cons (.glob 3 "SAME" ⟨108,18,108,22⟩) .nil)) 0 ⟨108,12,108,23⟩) ⟨108,4,108,9⟩ ⟨108,4,108,23⟩)
  (.cons (.for_ (.one 2 "time" ⟨109,8,109,12⟩) (.rng (.cons (.var 0 "number" ⟨109,22,109,28⟩) .nil) ⟨109,16,109,21⟩ ⟨109,16,109,29⟩) (.cons (.set 1 "found" (.tup (.cons (.glob 6 "MORE" ⟨110,17,110,21⟩) (.cons (.var 1 "found" ⟨110,23,110,28⟩) .nil)) 0 ⟨110,16,110,29⟩) ⟨110,8,110,13⟩ ⟨110,8,110,29⟩)
  .nil) ⟨109,4,110,29⟩)
  (.cons (.ret (.var 1 "found" ⟨111,11,111,16⟩) ⟨111,4,111,16⟩)
  .nil))))
/-- more -/
def b_more : Ss := (.cons (.ret (.glob 6 "MORE" ⟨113,11,113,15⟩) ⟨113,4,113,15⟩)
  .nil)
/-- plus -/
def b_plus : Ss := (.cons (.ret (.glob 7 "PLUS" ⟨115,11,115,15⟩) ⟨115,4,115,15⟩)
  .nil)
/-- times -/
def b_times : Ss := (.cons (.ret (.glob 5 "BEHIND" ⟨117,11,117,17⟩) ⟨117,4,117,17⟩)
  .nil)
/-- counted -/
def b_counted : Ss := (.cons (.expr (.call 5 "checked" (.cons (.var 0 "term" ⟨119,12,119,16⟩) .nil) ⟨119,4,119,11⟩ ⟨119,4,119,17⟩) ⟨119,4,119,17⟩)
  (.cons (.ite (.not (.call 0 "is_within" (.cons (.var 1 "most" ⟨120,21,120,25⟩) (.cons (.cst (.int 0) 0 ⟨120,27,120,28⟩) (.cons (.glob 2 "MOST_PLAYED" ⟨120,30,120,41⟩) .nil))) ⟨120,11,120,20⟩ ⟨120,11,120,42⟩) ⟨120,7,120,42⟩) (.cons (.rais 3 "BadCount" "no number of steps" 0 ⟨121,14,121,22⟩ ⟨121,23,121,43⟩ ⟨121,14,121,44⟩ ⟨121,8,121,44⟩)
  .nil) .nil ⟨120,4,121,44⟩)
  (.cons (.set 2 "found" (.ix (.call 15 "played" (.cons (.call 6 "looked" (.cons (.tup (.cons (.tup (.cons (.var 0 "term" ⟨122,28,122,32⟩) (.cons (.cst (.str "f") 0 ⟨122,34,122,37⟩) .nil)) 0 ⟨122,27,122,38⟩) (.cons (.cst (.str "x") 0 ⟨122,40,122,43⟩) .nil)) 0 ⟨122,26,122,44⟩) .nil) ⟨122,19,122,25⟩ ⟨122,19,122,45⟩) (.cons (.var 1 "most" ⟨122,47,122,51⟩) .nil)) ⟨122,12,122,18⟩ ⟨122,12,122,52⟩) (.cst (.int 0) 0 ⟨122,53,122,54⟩) ⟨122,12,122,55⟩) ⟨122,4,122,9⟩ ⟨122,4,122,55⟩)
  (.cons (.set 3 "many" (.cst (.int 0) 0 ⟨123,11,123,12⟩) ⟨123,4,123,8⟩ ⟨123,4,123,12⟩)
  (.cons (.while_ (.bop .And (.cons (.isi .tuple (.var 2 "found" ⟨124,21,124,26⟩) ⟨124,10,124,20⟩ ⟨124,28,124,33⟩ ⟨124,10,124,34⟩) (.cons (.cmp .Eq (.ix (.var 2 "found" ⟨124,39,124,44⟩) (.cst (.int 0) 0 ⟨124,45,124,46⟩) ⟨124,39,124,47⟩) (.cst (.str "f") 0 ⟨124,51,124,54⟩) ⟨124,39,124,54⟩) .nil)) ⟨124,10,124,54⟩) (.cons (.aug 3 "many" (.cst (.int 1) 0 ⟨125,16,125,17⟩) ⟨125,8,125,12⟩ ⟨125,8,125,17⟩)
  (.cons (.set 2 "found" (.ix (.var 2 "found" ⟨126,16,126,21⟩) (.cst (.int 1) 0 ⟨126,22,126,23⟩) ⟨126,16,126,24⟩) ⟨126,8,126,13⟩ ⟨126,8,126,24⟩)
  .nil)) ⟨124,4,126,24⟩)
  (.cons (.ret (.ife (.cmp .Eq (.var 2 "found" ⟨127,19,127,24⟩) (.cst (.str "x") 0 ⟨127,28,127,31⟩) ⟨127,19,127,31⟩) (.var 3 "many" ⟨127,11,127,15⟩) (.cst .none 0 ⟨127,37,127,41⟩) ⟨127,11,127,41⟩) ⟨127,4,127,41⟩)
  .nil))))))
/-- _law_cell -/
def b__law_cell : Ss := (.cons (.ite (.cmp .Lt (.var 1 "_law_k" ⟨130,7,130,13⟩) (.bi .len (.var 0 "_law_script" ⟨130,20,130,31⟩) ⟨130,16,130,19⟩ ⟨130,16,130,32⟩) ⟨130,7,130,32⟩) (.cons (.ret (.ix (.var 0 "_law_script" ⟨131,15,131,26⟩) (.var 1 "_law_k" ⟨131,27,131,33⟩) ⟨131,15,131,34⟩) ⟨131,8,131,34⟩)
  .nil) .nil ⟨130,4,131,34⟩)
  (.cons (.ret (.cst (.int 0) 0 ⟨132,11,132,12⟩) ⟨132,4,132,12⟩)
  .nil))
/-- _law_row -/
def b__law_row : Ss := (.cons (.set 2 "_law_cell_here" (.call 21 "_law_cell" (.cons (.var 0 "_law_script" ⟨134,31,134,42⟩) (.cons (.var 1 "_law_at" ⟨134,44,134,51⟩) .nil)) ⟨134,21,134,30⟩ ⟨134,21,134,52⟩) ⟨134,4,134,18⟩ ⟨134,4,134,52⟩)
  (.cons (.setF 3 "_law_found" (.lst .nil ⟨135,17,135,19⟩) ⟨135,4,135,14⟩ ⟨135,4,135,19⟩)
  (.cons (.for_ (.one 4 "_law_time" ⟨136,8,136,17⟩) (.rng (.cons (.cst (.int 60) 0 ⟨136,27,136,29⟩) .nil) ⟨136,21,136,26⟩ ⟨136,21,136,30⟩) (.cons (.ite (.cmp .Lt (.call 21 "_law_cell" (.cons (.var 0 "_law_script" ⟨137,21,137,32⟩) (.cons (.var 1 "_law_at" ⟨137,34,137,41⟩) .nil)) ⟨137,11,137,20⟩ ⟨137,11,137,42⟩) (.bin .Pow (.cst (.int 10) 0 ⟨137,45,137,47⟩) (.cst (.int 18) 0 ⟨137,51,137,53⟩) ⟨137,45,137,53⟩) ⟨137,11,137,53⟩) (.cons (.set 2 "_law_cell_here" (.bin .Mod (.bin .Add (.bin .Add (.bin .Add (.bin .Mult (.var 2 "_law_cell_here" ⟨138,30,138,44⟩) (.cst (.int 48271) 0 ⟨138,47,138,52⟩) ⟨138,30,138,52⟩) (.bin .Mult (.cst (.int 131) 0 ⟨138,55,138,58⟩) (.var 4 "_law_time" ⟨138,61,138,70⟩) ⟨138,55,138,70⟩) ⟨138,30,138,70⟩) (.cst (.int 7) 0 ⟨138,73,138,74⟩) ⟨138,30,138,74⟩) (.call 21 "_law_cell" (.cons (.var 0 "_law_script" ⟨138,87,138,98⟩) (.cons (.bin .Mod (.bin .Add (.bin .Add (.var 1 "_law_at" ⟨138,101,138,108⟩) (.cst (.int 1) 0 ⟨138,111,138,112⟩) ⟨138,101,138,112⟩) (.var 4 "_law_time" ⟨138,115,138,124⟩) ⟨138,101,138,124⟩) (.cst (.int 20) 0 ⟨138,128,138,130⟩) ⟨138,100,138,130⟩) .nil)) ⟨138,77,138,86⟩ ⟨138,77,138,131⟩) ⟨138,30,138,131⟩) (.cst (.int 2147483647) 0 ⟨138,135,138,145⟩) ⟨138,29,138,145⟩) ⟨138,12,138,26⟩ ⟨138,12,138,145⟩)
  (.cons (.app 3 "_law_found" (.bin .Mod (.bin .FloorDiv (.var 2 "_law_cell_here" ⟨139,30,139,44⟩) (.cst (.int 11) 0 ⟨139,48,139,50⟩) ⟨139,30,139,50⟩) (.cst (.int 1000) 0 ⟨139,53,139,57⟩) ⟨139,30,139,57⟩) ⟨139,12,139,22⟩ ⟨139,12,139,29⟩ ⟨139,12,139,58⟩ ⟨139,12,139,58⟩)
  .nil)) (.cons (.app 3 "_law_found" (.bin .Mod (.var 2 "_law_cell_here" ⟨141,30,141,44⟩) (.cst (.int 1000) 0 ⟨141,47,141,51⟩) ⟨141,30,141,51⟩) ⟨141,12,141,22⟩ ⟨141,12,141,29⟩ ⟨141,12,141,52⟩ ⟨141,12,141,52⟩)
  (.cons (.set 2 "_law_cell_here" (.bin .FloorDiv (.var 2 "_law_cell_here" ⟨142,29,142,43⟩) (.cst (.int 1000) 0 ⟨142,47,142,51⟩) ⟨142,29,142,51⟩) ⟨142,12,142,26⟩ ⟨142,12,142,51⟩)
  .nil)) ⟨137,8,142,51⟩)
  .nil) ⟨136,4,142,51⟩)
  (.fz 3 (.cons (.ret (.var 3 "_law_found" ⟨143,11,143,21⟩) ⟨143,4,143,21⟩)
  .nil)))))
/-- _law_name -/
def b__law_name : Ss := (.cons (.ite (.cmp .Gt (.bin .Mod (.var 0 "_law_number" ⟨145,7,145,18⟩) (.cst (.int 5) 0 ⟨145,21,145,22⟩) ⟨145,7,145,22⟩) (.cst (.int 0) 0 ⟨145,25,145,26⟩) ⟨145,7,145,26⟩) (.cons (.ret (.ix (.lst (.cons (.cst (.str "x") 0 ⟨146,16,146,19⟩) (.cons (.cst (.str "y") 0 ⟨146,21,146,24⟩) (.cons (.cst (.str "z") 0 ⟨146,26,146,29⟩) (.cons (.cst (.str "f") 0 ⟨146,31,146,34⟩) .nil)))) ⟨146,15,146,35⟩) (.bin .Mod (.bin .FloorDiv (.var 0 "_law_number" ⟨146,36,146,47⟩) (.cst (.int 5) 0 ⟨146,51,146,52⟩) ⟨146,36,146,52⟩) (.cst (.int 4) 0 ⟨146,55,146,56⟩) ⟨146,36,146,56⟩) ⟨146,15,146,57⟩) ⟨146,8,146,57⟩)
  .nil) .nil ⟨145,4,146,57⟩)
  (.cons (.ret (.bin .Mult (.ix (.cst (.str "abcdefghijklmnopqrstuvwxyz") 0 ⟨147,11,147,39⟩) (.bin .Mod (.bin .FloorDiv (.var 0 "_law_number" ⟨147,40,147,51⟩) (.cst (.int 5) 0 ⟨147,55,147,56⟩) ⟨147,40,147,56⟩) (.cst (.int 26) 0 ⟨147,59,147,61⟩) ⟨147,40,147,61⟩) ⟨147,11,147,62⟩) (.bin .Add (.cst (.int 1) 0 ⟨147,66,147,67⟩) (.bin .Mod (.bin .FloorDiv (.var 0 "_law_number" ⟨147,70,147,81⟩) (.cst (.int 130) 0 ⟨147,85,147,88⟩) ⟨147,70,147,88⟩) (.cst (.int 3) 0 ⟨147,91,147,92⟩) ⟨147,70,147,92⟩) ⟨147,66,147,92⟩) ⟨147,11,147,93⟩) ⟨147,4,147,93⟩)
  .nil))
/-- law -/
def b_law : Ss := (.cons (.set 1 "_law_row_here" (.call 22 "_law_row" (.cons (.var 0 "_law_script" ⟨149,29,149,40⟩) (.cons (.cst (.int 1) 0 ⟨149,42,149,43⟩) .nil)) ⟨149,20,149,28⟩ ⟨149,20,149,44⟩) ⟨149,4,149,17⟩ ⟨149,4,149,44⟩)
  (.cons (.set 2 "_law_one" (.bin .Mod (.ix (.var 1 "_law_row_here" ⟨150,15,150,28⟩) (.cst (.int 0) 0 ⟨150,29,150,30⟩) ⟨150,15,150,31⟩) (.cst (.int 5) 0 ⟨150,34,150,35⟩) ⟨150,15,150,35⟩) ⟨150,4,150,12⟩ ⟨150,4,150,35⟩)
  (.cons (.set 3 "_law_other" (.bin .Mod (.ix (.var 1 "_law_row_here" ⟨151,17,151,30⟩) (.cst (.int 1) 0 ⟨151,31,151,32⟩) ⟨151,17,151,33⟩) (.cst (.int 5) 0 ⟨151,36,151,37⟩) ⟨151,17,151,37⟩) ⟨151,4,151,14⟩ ⟨151,4,151,37⟩)
  (.cons (.set 4 "_law_first" (.call 16 "number_term" (.cons (.var 2 "_law_one" ⟨152,29,152,37⟩) .nil) ⟨152,17,152,28⟩ ⟨152,17,152,38⟩) ⟨152,4,152,14⟩ ⟨152,4,152,38⟩)
  (.cons (.ite (.bop .Or (.cons (.cmp .NotEq (.call 20 "counted" (.cons (.var 4 "_law_first" ⟨153,15,153,25⟩) .nil) ⟨153,7,153,14⟩ ⟨153,7,153,26⟩) (.var 2 "_law_one" ⟨153,30,153,38⟩) ⟨153,7,153,38⟩) (.cons (.cmp .NotEq (.call 20 "counted" (.cons (.tup (.cons (.call 17 "more" .nil ⟨153,51,153,55⟩ ⟨153,51,153,57⟩) (.cons (.var 4 "_law_first" ⟨153,59,153,69⟩) .nil)) 0 ⟨153,50,153,70⟩) .nil) ⟨153,42,153,49⟩ ⟨153,42,153,71⟩) (.bin .Add (.var 2 "_law_one" ⟨153,75,153,83⟩) (.cst (.int 1) 0 ⟨153,86,153,87⟩) ⟨153,75,153,87⟩) ⟨153,42,153,87⟩) .nil)) ⟨153,7,153,87⟩) (.cons (.ret (.cst (.bool false) 0 ⟨154,15,154,20⟩) ⟨154,8,154,20⟩)
  .nil) .nil ⟨153,4,154,20⟩)
  (.cons (.ite (.cmp .NotEq (.call 20 "counted" (.cons (.tup (.cons (.tup (.cons (.call 18 "plus" .nil ⟨155,17,155,21⟩ ⟨155,17,155,23⟩) (.cons (.var 4 "_law_first" ⟨155,25,155,35⟩) .nil)) 0 ⟨155,16,155,36⟩) (.cons (.call 16 "number_term" (.cons (.var 3 "_law_other" ⟨155,50,155,60⟩) .nil) ⟨155,38,155,49⟩ ⟨155,38,155,61⟩) .nil)) 0 ⟨155,15,155,62⟩) .nil) ⟨155,7,155,14⟩ ⟨155,7,155,63⟩) (.bin .Add (.var 2 "_law_one" ⟨155,67,155,75⟩) (.var 3 "_law_other" ⟨155,78,155,88⟩) ⟨155,67,155,88⟩) ⟨155,7,155,88⟩) (.cons (.ret (.cst (.bool false) 0 ⟨156,15,156,20⟩) ⟨156,8,156,20⟩)
  .nil) .nil ⟨155,4,156,20⟩)
  (.cons (.set 2 "_law_one" (.bin .Mod (.var 2 "_law_one" ⟨157,15,157,23⟩) (.cst (.int 3) 0 ⟨157,26,157,27⟩) ⟨157,15,157,27⟩) ⟨157,4,157,12⟩ ⟨157,4,157,27⟩)
  (.cons (.set 3 "_law_other" (.bin .Mod (.var 3 "_law_other" ⟨158,17,158,27⟩) (.cst (.int 4) 0 ⟨158,30,158,31⟩) ⟨158,17,158,31⟩) ⟨158,4,158,14⟩ ⟨158,4,158,31⟩)
  (.cons (.ite (.cmp .NotEq (.call 20 "counted" (.cons (.tup (.cons (.tup (.cons (.call 19 "times" .nil ⟨159,17,159,22⟩ ⟨159,17,159,24⟩) (.cons (.call 16 "number_term" (.cons (.var 2 "_law_one" ⟨159,38,159,46⟩) .nil) ⟨159,26,159,37⟩ ⟨159,26,159,47⟩) .nil)) 0 ⟨159,16,159,48⟩) (.cons (.call 16 "number_term" (.cons (.var 3 "_law_other" ⟨159,62,159,72⟩) .nil) ⟨159,50,159,61⟩ ⟨159,50,159,73⟩) .nil)) 0 ⟨159,15,159,74⟩) .nil) ⟨159,7,159,14⟩ ⟨159,7,159,75⟩) (.bin .Mult (.var 2 "_law_one" ⟨159,79,159,87⟩) (.var 3 "_law_other" ⟨159,90,159,100⟩) ⟨159,79,159,100⟩) ⟨159,7,159,100⟩) (.cons (.ret (.cst (.bool false) 0 ⟨160,15,160,20⟩) ⟨160,8,160,20⟩)
  .nil) .nil ⟨159,4,160,20⟩)
  (.cons (.set 4 "_law_first" (.call 23 "_law_name" (.cons (.ix (.var 1 "_law_row_here" ⟨161,27,161,40⟩) (.cst (.int 2) 0 ⟨161,41,161,42⟩) ⟨161,27,161,43⟩) .nil) ⟨161,17,161,26⟩ ⟨161,17,161,44⟩) ⟨161,4,161,14⟩ ⟨161,4,161,44⟩)
  (.cons (.set 5 "_law_then" (.call 23 "_law_name" (.cons (.ix (.var 1 "_law_row_here" ⟨162,26,162,39⟩) (.cst (.int 3) 0 ⟨162,40,162,41⟩) ⟨162,26,162,42⟩) .nil) ⟨162,16,162,25⟩ ⟨162,16,162,43⟩) ⟨162,4,162,13⟩ ⟨162,4,162,43⟩)
  (.cons (.set 6 "_law_due" (.var 5 "_law_then" ⟨163,15,163,24⟩) ⟨163,4,163,12⟩ ⟨163,4,163,24⟩)
  (.cons (.for_ (.one 7 "_law_time" ⟨164,8,164,17⟩) (.rng (.cons (.var 2 "_law_one" ⟨164,27,164,35⟩) .nil) ⟨164,21,164,26⟩ ⟨164,21,164,36⟩) (.cons (.set 6 "_law_due" (.tup (.cons (.var 4 "_law_first" ⟨165,20,165,30⟩) (.cons (.var 6 "_law_due" ⟨165,32,165,40⟩) .nil)) 0 ⟨165,19,165,41⟩) ⟨165,8,165,16⟩ ⟨165,8,165,41⟩)
  .nil) ⟨164,4,165,41⟩)
  (.cons (.unp (.two 8 "_law_found" ⟨166,4,166,14⟩ 9 "_law_way" ⟨166,16,166,24⟩ 0 ⟨166,4,166,24⟩) (.call 15 "played" (.cons (.tup (.cons (.tup (.cons (.call 16 "number_term" (.cons (.var 2 "_law_one" ⟨166,48,166,56⟩) .nil) ⟨166,36,166,47⟩ ⟨166,36,166,57⟩) (.cons (.var 4 "_law_first" ⟨166,59,166,69⟩) .nil)) 0 ⟨166,35,166,70⟩) (.cons (.var 5 "_law_then" ⟨166,72,166,81⟩) .nil)) 0 ⟨166,34,166,82⟩) (.cons (.cst (.int 200) 0 ⟨166,84,166,87⟩) .nil)) ⟨166,27,166,33⟩ ⟨166,27,166,88⟩) ⟨166,4,166,88⟩)
  (.cons (.ret (.bop .And (.cons (.cmp .Eq (.var 8 "_law_found" ⟨167,11,167,21⟩) (.var 6 "_law_due" ⟨167,25,167,33⟩) ⟨167,11,167,33⟩) (.cons (.cmp .Eq (.call 14 "led" (.cons (.tup (.cons (.tup (.cons (.call 16 "number_term" (.cons (.var 2 "_law_one" ⟨167,56,167,64⟩) .nil) ⟨167,44,167,55⟩ ⟨167,44,167,65⟩) (.cons (.var 4 "_law_first" ⟨167,67,167,77⟩) .nil)) 0 ⟨167,43,167,78⟩) (.cons (.var 5 "_law_then" ⟨167,80,167,89⟩) .nil)) 0 ⟨167,42,167,90⟩) (.cons (.var 9 "_law_way" ⟨167,92,167,100⟩) .nil)) ⟨167,38,167,41⟩ ⟨167,38,167,101⟩) (.var 6 "_law_due" ⟨167,105,167,113⟩) ⟨167,38,167,113⟩) .nil)) ⟨167,11,167,113⟩) ⟨167,4,167,113⟩)
  .nil)))))))))))))))
def d0 : DefI := ⟨s0, "is_within", ["thing", "low", "high"], ["thing", "low", "high"], [], b_is_within⟩
def d1 : DefI := ⟨s1, "is_name", ["thing", "sign"], ["thing"], [], b_is_name⟩
def d2 : DefI := ⟨s2, "is_leaf", ["thing"], ["thing"], [], b_is_leaf⟩
def d3 : DefI := ⟨s3, "left_of", ["thing", "left"], ["thing", "left"], [], b_left_of⟩
def d4 : DefI := ⟨s4, "is_term", ["thing"], ["thing"], [], b_is_term⟩
def d5 : DefI := ⟨s5, "checked", ["term"], ["term"], [], b_checked⟩
def d6 : DefI := ⟨s6, "looked", ["term"], ["term"], [], b_looked⟩
def d7 : DefI := ⟨s7, "deed_of", ["term"], ["term"], [], b_deed_of⟩
def d8 : DefI := ⟨s8, "done", ["term", "first", "then", "shared"], ["term"], [], b_done⟩
def d9 : DefI := ⟨s9, "ways_of", ["term", "found", "way"], ["term"], [], b_ways_of⟩
def d10 : DefI := ⟨s10, "part_at", ["term", "way", "side"], ["term", "way"], [], b_part_at⟩
def d11 : DefI := ⟨s11, "with_part", ["term", "way", "other"], ["term", "way", "other"], [], b_with_part⟩
def d12 : DefI := ⟨s12, "look_way", ["term", "way", "found"], ["term", "way"], [], b_look_way⟩
def d13 : DefI := ⟨s13, "step_to", ["term", "way"], ["term", "way"], [], b_step_to⟩
def d14 : DefI := ⟨s14, "led", ["term", "row", "way"], ["term", "row"], [], b_led⟩
def d15 : DefI := ⟨s15, "played", ["term", "most", "row", "some"], ["term", "most"], [.int 50], b_played⟩
def d16 : DefI := ⟨s16, "number_term", ["number", "found", "time"], ["number"], [], b_number_term⟩
def d17 : DefI := ⟨s17, "more", [], [], [], b_more⟩
def d18 : DefI := ⟨s18, "plus", [], [], [], b_plus⟩
def d19 : DefI := ⟨s19, "times", [], [], [], b_times⟩
def d20 : DefI := ⟨s20, "counted", ["term", "most", "found", "many"], ["term", "most"], [.int 200], b_counted⟩
def d21 : DefI := ⟨s21, "_law_cell", ["_law_script", "_law_k"], ["_law_script", "_law_k"], [], b__law_cell⟩
def d22 : DefI := ⟨s22, "_law_row", ["_law_script", "_law_at", "_law_cell_here", "_law_found", "_law_time"], ["_law_script", "_law_at"], [], b__law_row⟩
def d23 : DefI := ⟨s23, "_law_name", ["_law_number"], ["_law_number"], [], b__law_name⟩
def d24 : DefI := ⟨s24, "law", ["_law_script", "_law_row_here", "_law_one", "_law_other", "_law_first", "_law_then", "_law_due", "_law_time", "_law_found", "_law_way"], ["_law_script"], [], b_law⟩
def defs : List DefI := [d0, d1, d2, d3, d4, d5, d6, d7, d8, d9, d10, d11, d12, d13, d14, d15, d16, d17, d18, d19, d20, d21, d22, d23, d24]
def globs : List (Str × D) := [("MOST_LEAVES", .int 200), ("SMALL", .str "abcdefghijklmnopqrstuvwxyz"), ("MOST_PLAYED", .int 400), ("SAME", .tuple [.tuple [.str "S", .str "K"], .str "K"]), ("MOST_NUMBER", .int 12), ("BEHIND", .tuple [.tuple [.str "S", .tuple [.str "K", .str "S"]], .str "K"]), ("MORE", .tuple [.str "S", .tuple [.tuple [.str "S", .tuple [.str "K", .str "S"]], .str "K"]]), ("PLUS", .tuple [.tuple [.str "S", .tuple [.tuple [.str "S", .str "K"], .str "K"]], .tuple [.str "K", .tuple [.str "S", .tuple [.tuple [.str "S", .tuple [.str "K", .str "S"]], .str "K"]]]])]
def exns : List XInfo := [⟨"CopyError", none, [0, 99]⟩, ⟨"BadTerm", none, [1, 0, 99]⟩, ⟨"BadWay", some "way", [2, 0, 99]⟩, ⟨"BadCount", none, [3, 0, 99]⟩, ⟨"TooBig", none, [4, 0, 99]⟩]
def info : Info := ⟨globs, [⟨"is_within", 3, []⟩, ⟨"is_name", 1, []⟩, ⟨"is_leaf", 1, []⟩, ⟨"left_of", 2, []⟩, ⟨"is_term", 1, []⟩, ⟨"checked", 1, []⟩, ⟨"looked", 1, []⟩, ⟨"deed_of", 1, []⟩, ⟨"done", 1, []⟩, ⟨"ways_of", 1, []⟩, ⟨"part_at", 2, []⟩, ⟨"with_part", 3, []⟩, ⟨"look_way", 2, []⟩, ⟨"step_to", 2, []⟩, ⟨"led", 2, []⟩, ⟨"played", 2, [.int 50]⟩, ⟨"number_term", 1, []⟩, ⟨"more", 0, []⟩, ⟨"plus", 0, []⟩, ⟨"times", 0, []⟩, ⟨"counted", 2, [.int 200]⟩, ⟨"_law_cell", 2, []⟩, ⟨"_law_row", 2, []⟩, ⟨"_law_name", 1, []⟩, ⟨"law", 1, []⟩], exns⟩
theorem t0 : DefT info d0 := ⟨rfl, by decide +kernel, by decide +kernel⟩
theorem t1 : DefT info d1 := ⟨rfl, by decide +kernel, by decide +kernel⟩
theorem t2 : DefT info d2 := ⟨rfl, by decide +kernel, by decide +kernel⟩
theorem t3 : DefT info d3 := ⟨rfl, by decide +kernel, by decide +kernel⟩
theorem t4 : DefT info d4 := ⟨rfl, by decide +kernel, by decide +kernel⟩
theorem t5 : DefT info d5 := ⟨rfl, by decide +kernel, by decide +kernel⟩
theorem t6 : DefT info d6 := ⟨rfl, by decide +kernel, by decide +kernel⟩
theorem t7 : DefT info d7 := ⟨rfl, by decide +kernel, by decide +kernel⟩
theorem t8 : DefT info d8 := ⟨rfl, by decide +kernel, by decide +kernel⟩
theorem t9 : DefT info d9 := ⟨rfl, by decide +kernel, by decide +kernel⟩
theorem t10 : DefT info d10 := ⟨rfl, by decide +kernel, by decide +kernel⟩
theorem t11 : DefT info d11 := ⟨rfl, by decide +kernel, by decide +kernel⟩
theorem t12 : DefT info d12 := ⟨rfl, by decide +kernel, by decide +kernel⟩
theorem t13 : DefT info d13 := ⟨rfl, by decide +kernel, by decide +kernel⟩
theorem t14 : DefT info d14 := ⟨rfl, by decide +kernel, by decide +kernel⟩
theorem t15 : DefT info d15 := ⟨rfl, by decide +kernel, by decide +kernel⟩
theorem t16 : DefT info d16 := ⟨rfl, by decide +kernel, by decide +kernel⟩
theorem t17 : DefT info d17 := ⟨rfl, by decide +kernel, by decide +kernel⟩
theorem t18 : DefT info d18 := ⟨rfl, by decide +kernel, by decide +kernel⟩
theorem t19 : DefT info d19 := ⟨rfl, by decide +kernel, by decide +kernel⟩
theorem t20 : DefT info d20 := ⟨rfl, by decide +kernel, by decide +kernel⟩
theorem t21 : DefT info d21 := ⟨rfl, by decide +kernel, by decide +kernel⟩
theorem t22 : DefT info d22 := ⟨rfl, by decide +kernel, by decide +kernel⟩
theorem t23 : DefT info d23 := ⟨rfl, by decide +kernel, by decide +kernel⟩
theorem t24 : DefT info d24 := ⟨rfl, by decide +kernel, by decide +kernel⟩
abbrev C (k f : Nat) (args : List D) : R D := callF info defs k f args
theorem c_is_within (k : Nat) (args : List D) : C (k + 1) f_is_within args = runB info (callF info defs k) 3 b_is_within args := rfl
theorem c_is_name (k : Nat) (args : List D) : C (k + 1) f_is_name args = runB info (callF info defs k) 2 b_is_name args := rfl
theorem c_is_leaf (k : Nat) (args : List D) : C (k + 1) f_is_leaf args = runB info (callF info defs k) 1 b_is_leaf args := rfl
theorem c_left_of (k : Nat) (args : List D) : C (k + 1) f_left_of args = runB info (callF info defs k) 2 b_left_of args := rfl
theorem c_is_term (k : Nat) (args : List D) : C (k + 1) f_is_term args = runB info (callF info defs k) 1 b_is_term args := rfl
theorem c_checked (k : Nat) (args : List D) : C (k + 1) f_checked args = runB info (callF info defs k) 1 b_checked args := rfl
theorem c_looked (k : Nat) (args : List D) : C (k + 1) f_looked args = runB info (callF info defs k) 1 b_looked args := rfl
theorem c_deed_of (k : Nat) (args : List D) : C (k + 1) f_deed_of args = runB info (callF info defs k) 1 b_deed_of args := rfl
theorem c_done (k : Nat) (args : List D) : C (k + 1) f_done args = runB info (callF info defs k) 4 b_done args := rfl
theorem c_ways_of (k : Nat) (args : List D) : C (k + 1) f_ways_of args = runB info (callF info defs k) 3 b_ways_of args := rfl
theorem c_part_at (k : Nat) (args : List D) : C (k + 1) f_part_at args = runB info (callF info defs k) 3 b_part_at args := rfl
theorem c_with_part (k : Nat) (args : List D) : C (k + 1) f_with_part args = runB info (callF info defs k) 3 b_with_part args := rfl
theorem c_look_way (k : Nat) (args : List D) : C (k + 1) f_look_way args = runB info (callF info defs k) 3 b_look_way args := rfl
theorem c_step_to (k : Nat) (args : List D) : C (k + 1) f_step_to args = runB info (callF info defs k) 2 b_step_to args := rfl
theorem c_led (k : Nat) (args : List D) : C (k + 1) f_led args = runB info (callF info defs k) 3 b_led args := rfl
theorem c_played (k : Nat) (args : List D) : C (k + 1) f_played args = runB info (callF info defs k) 4 b_played args := rfl
theorem c_number_term (k : Nat) (args : List D) : C (k + 1) f_number_term args = runB info (callF info defs k) 3 b_number_term args := rfl
theorem c_more (k : Nat) (args : List D) : C (k + 1) f_more args = runB info (callF info defs k) 0 b_more args := rfl
theorem c_plus (k : Nat) (args : List D) : C (k + 1) f_plus args = runB info (callF info defs k) 0 b_plus args := rfl
theorem c_times (k : Nat) (args : List D) : C (k + 1) f_times args = runB info (callF info defs k) 0 b_times args := rfl
theorem c_counted (k : Nat) (args : List D) : C (k + 1) f_counted args = runB info (callF info defs k) 4 b_counted args := rfl
theorem c__law_cell (k : Nat) (args : List D) : C (k + 1) f__law_cell args = runB info (callF info defs k) 2 b__law_cell args := rfl
theorem c__law_row (k : Nat) (args : List D) : C (k + 1) f__law_row args = runB info (callF info defs k) 5 b__law_row args := rfl
theorem c__law_name (k : Nat) (args : List D) : C (k + 1) f__law_name args = runB info (callF info defs k) 1 b__law_name args := rfl
theorem c_law (k : Nat) (args : List D) : C (k + 1) f_law args = runB info (callF info defs k) 10 b_law args := rfl
@[simp] theorem i_is_within : info.fns[0]? = some ⟨"is_within", 3, []⟩ := rfl
@[simp] theorem i_is_name : info.fns[1]? = some ⟨"is_name", 1, []⟩ := rfl
@[simp] theorem i_is_leaf : info.fns[2]? = some ⟨"is_leaf", 1, []⟩ := rfl
@[simp] theorem i_left_of : info.fns[3]? = some ⟨"left_of", 2, []⟩ := rfl
@[simp] theorem i_is_term : info.fns[4]? = some ⟨"is_term", 1, []⟩ := rfl
@[simp] theorem i_checked : info.fns[5]? = some ⟨"checked", 1, []⟩ := rfl
@[simp] theorem i_looked : info.fns[6]? = some ⟨"looked", 1, []⟩ := rfl
@[simp] theorem i_deed_of : info.fns[7]? = some ⟨"deed_of", 1, []⟩ := rfl
@[simp] theorem i_done : info.fns[8]? = some ⟨"done", 1, []⟩ := rfl
@[simp] theorem i_ways_of : info.fns[9]? = some ⟨"ways_of", 1, []⟩ := rfl
@[simp] theorem i_part_at : info.fns[10]? = some ⟨"part_at", 2, []⟩ := rfl
@[simp] theorem i_with_part : info.fns[11]? = some ⟨"with_part", 3, []⟩ := rfl
@[simp] theorem i_look_way : info.fns[12]? = some ⟨"look_way", 2, []⟩ := rfl
@[simp] theorem i_step_to : info.fns[13]? = some ⟨"step_to", 2, []⟩ := rfl
@[simp] theorem i_led : info.fns[14]? = some ⟨"led", 2, []⟩ := rfl
@[simp] theorem i_played : info.fns[15]? = some ⟨"played", 2, [.int 50]⟩ := rfl
@[simp] theorem i_number_term : info.fns[16]? = some ⟨"number_term", 1, []⟩ := rfl
@[simp] theorem i_more : info.fns[17]? = some ⟨"more", 0, []⟩ := rfl
@[simp] theorem i_plus : info.fns[18]? = some ⟨"plus", 0, []⟩ := rfl
@[simp] theorem i_times : info.fns[19]? = some ⟨"times", 0, []⟩ := rfl
@[simp] theorem i_counted : info.fns[20]? = some ⟨"counted", 2, [.int 200]⟩ := rfl
@[simp] theorem i__law_cell : info.fns[21]? = some ⟨"_law_cell", 2, []⟩ := rfl
@[simp] theorem i__law_row : info.fns[22]? = some ⟨"_law_row", 2, []⟩ := rfl
@[simp] theorem i__law_name : info.fns[23]? = some ⟨"_law_name", 1, []⟩ := rfl
@[simp] theorem i_law : info.fns[24]? = some ⟨"law", 1, []⟩ := rfl
@[simp] theorem v_MOST_LEAVES : info.globs[0]? = some (("MOST_LEAVES" : Str), (.int 200 : D)) := rfl
@[simp] theorem v_SMALL : info.globs[1]? = some (("SMALL" : Str), (.str "abcdefghijklmnopqrstuvwxyz" : D)) := rfl
@[simp] theorem v_MOST_PLAYED : info.globs[2]? = some (("MOST_PLAYED" : Str), (.int 400 : D)) := rfl
@[simp] theorem v_SAME : info.globs[3]? = some (("SAME" : Str), (.tuple [.tuple [.str "S", .str "K"], .str "K"] : D)) := rfl
@[simp] theorem v_MOST_NUMBER : info.globs[4]? = some (("MOST_NUMBER" : Str), (.int 12 : D)) := rfl
@[simp] theorem v_BEHIND : info.globs[5]? = some (("BEHIND" : Str), (.tuple [.tuple [.str "S", .tuple [.str "K", .str "S"]], .str "K"] : D)) := rfl
@[simp] theorem v_MORE : info.globs[6]? = some (("MORE" : Str), (.tuple [.str "S", .tuple [.tuple [.str "S", .tuple [.str "K", .str "S"]], .str "K"]] : D)) := rfl
@[simp] theorem v_PLUS : info.globs[7]? = some (("PLUS" : Str), (.tuple [.tuple [.str "S", .tuple [.tuple [.str "S", .str "K"], .str "K"]], .tuple [.str "K", .tuple [.str "S", .tuple [.tuple [.str "S", .tuple [.str "K", .str "S"]], .str "K"]]]] : D)) := rfl
end K26

namespace K26
open PySem CH
theorem law_cell {k : Nat} (h : 1 ≤ k) (ns : List Int) (i : Nat) : callF info defs k f__law_cell [.list (ns.map .int), .int i] = .ok (.int (ns[i]?.getD 0)) := by
  obtain ⟨k, rfl⟩ : ∃ j, k = j + 1 := ⟨k - 1, by omega⟩
  refine (c__law_cell _ _).trans ?_
  simp [b__law_cell]
  split
  · rename_i hi
    rw [at_nat (n := i) (x := .int ns[i]) _ (by simp [hi])]
    simp [hi]
  · rename_i hi
    simp [List.getElem?_eq_none (by omega : ns.length ≤ i)]
/-- a row: sixty small numbers -/
structure Row (r : List Nat) : Prop where
  len : r.length = 60
  lt : ∀ x ∈ r, x < 1000
theorem small_nat {x : Int} (h1 : 0 ≤ x) (h2 : x < 1000) : ∃ n : Nat, n < 1000 ∧ x = (n : Int) := ⟨x.toNat, by omega, by omega⟩
theorem law_row {k : Nat} (h : 2 ≤ k) (ns : List Int) (i : Nat) : ∃ r, Row r ∧ callF info defs k f__law_row [.list (ns.map .int), .int i] = .ok (.list (nD r)) := by
  obtain ⟨k, rfl⟩ : ∃ j, k = j + 2 := ⟨k - 2, by omega⟩
  have hc : ∀ j : Nat, callF info defs (k + 1) f__law_cell [.list (ns.map .int), .int j] = .ok (.int (ns[j]?.getD 0)) := law_cell (by omega) ns
  have hc2 : ∀ j : Nat, callF info defs (k + 1) f__law_cell [.list (ns.map .int), .int (((i : Int) + 1 + (j : Int)) % 20)] = .ok (.int (ns[(i + 1 + j) % 20]?.getD 0)) := fun j => by
    rw [show ((i : Int) + 1 + (j : Int)) % 20 = (((i + 1 + j) % 20 : Nat) : Int) by omega]
    exact hc _
  suffices g : Gv (fun d => ∃ r, Row r ∧ d = .list (nD r)) (callF info defs (k + 2) f__law_row [.list (ns.map .int), .int i]) by
    obtain ⟨d, e, r, hr, rfl⟩ := g
    exact ⟨r, hr, e⟩
  rw [show callF info defs (k + 2) f__law_row [.list (ns.map .int), .int i] = _ from c__law_row _ _]
  generalize callF info defs (k + 1) = F at *
  refine gv_out ?_
  simp [b__law_row, hc, o_rg1 60 (by decide)]
  refine wp_for (fun n ρ => ∃ (c : Int) (f : List Nat) (s : Sl), ρ = [.dat (.list (ns.map .int)), .dat (.int i), .dat (.int c), .own (nD f), s] ∧ f.length = n ∧ ∀ x ∈ f, x < 1000) ⟨_, [], _, rfl, rfl, by simp⟩ ?_ ?_
  · rintro n d ρ hd ⟨c, f, s, rfl, hl, hx⟩
    obtain ⟨hn, rfl⟩ := rng_at hd
    have hn : n < 60 := by omega
    have hfl : f.length < lim := by show f.length < 1000000; omega
    have key : ∀ z : Int, ∃ f', (∀ x : Int, x = z → nD f ++ [.int (x % 1000)] = nD f') ∧ f'.length = n + 1 ∧ ∀ x ∈ f', x < 1000 := fun z => by
      obtain ⟨m, h1, h2⟩ := small_nat (x := z % 1000) (by omega) (by omega)
      refine ⟨f ++ [m], fun x e => ?_, by simp [hl], fun x hx' => ?_⟩
      · rw [nD_app, e, h2]; rfl
      · rcases List.mem_append.mp hx' with h | h
        · exact hx x h
        · rw [List.mem_singleton.mp h]; exact h1
    refine ⟨_, rfl, ?_⟩
    simp [hc, hc2, dPow, o_mulI _ 48271, o_mulI 131 n (by omega) (by omega), o_modI, o_divI, hfl]
    split
    · generalize (c * 48271 + 131 * (n : Int) + 7 + ns[(i + 1 + n) % 20]?.getD 0) % 2147483647 = c'
      obtain ⟨f', e, h1, h2⟩ := key (c' / 11)
      exact ⟨_, f', ⟨rfl, e _ rfl⟩, h1, h2⟩
    · obtain ⟨f', e, h1, h2⟩ := key c
      exact ⟨_, f', ⟨rfl, e _ rfl⟩, h1, h2⟩
  · rintro ρ ⟨c, f, s, rfl, hl, hx⟩
    simp at hl
    simp
    exact ⟨f, ⟨hl, hx⟩, rfl⟩
theorem filt_all {α : Type} (p : α → Bool) : ∀ l : List α, (l.filter fun c => !p c).isEmpty = l.all p
  | [] => rfl
  | a :: r => by
    have ih := filt_all p r
    cases h : p a
    · rw [List.filter_cons_of_pos (by rw [h]; rfl)]
      simp [h]
    · rw [List.filter_cons_of_neg (by rw [h]; exact Bool.false_ne_true), ih]
      simp [h]
theorem is_name_ok {k : Nat} (h : 1 ≤ k) (s : Str) (hs : s.length ≤ lim) : callF info defs k f_is_name [.str s] = .ok (.bool (isName s)) := by
  obtain ⟨k, rfl⟩ : ∃ j, k = j + 1 := ⟨k - 1, by omega⟩
  refine (c_is_name _ _).trans ?_
  generalize callF info defs k = F
  simp [b_is_name, hs, it_str]
  rw [compL_map chD (fun c => !decide (c ∈ smallS.cps.toList)) chD]
  · simp [isName, slen]
    by_cases h1 : 1 ≤ s.cps.size
    · by_cases h2 : s.cps.size ≤ 3
      · simp [show (1 : Int) ≤ s.cps.size by omega, show (s.cps.size : Int) ≤ 3 by omega, h1, h2]
        rw [show (List.filter (fun c => !decide (c ∈ smallS.cps)) s.cps.toList).isEmpty = s.cps.toList.all (fun c => decide (c ∈ smallS.cps)) from filt_all _ _, Array.all_toList]
      · simp [show ¬ (s.cps.size : Int) ≤ 3 by omega, h2]
    · simp [show ¬ (1 : Int) ≤ s.cps.size by omega, h1]
  · intro c hc
    refine ⟨_, rfl, by simp; rfl, by simp⟩
theorem is_leaf_ok {k : Nat} (h : 2 ≤ k) (s : Str) (hs : s.length ≤ lim) : callF info defs k f_is_leaf [.str s] = .ok (.bool (isLeaf s)) := by
  obtain ⟨k, rfl⟩ : ∃ j, k = j + 1 := ⟨k - 1, by omega⟩
  have hn := is_name_ok (k := k) (by omega) s hs
  refine (c_is_leaf _ _).trans ?_
  generalize callF info defs k = F at *
  simp [b_is_leaf, hn, isLeaf]
  split
  · rename_i e; simp [e]
  · split
    · rename_i e; simp [e]
    · rename_i e1 e2; simp [e1, e2]
def nameB (m r : Nat) : Bool := match (dIx (.str smallS) (.int m)).bind fun d => dMul d (.int (1 + r)) with
  | some (.str s) => isName s
  | _ => false
theorem nameB_ok : ∀ m, m < 26 → ∀ r, r < 3 → nameB m r = true := by decide +kernel
theorem name_mk {m r : Nat} (hm : m < 26) (hr : r < 3) : ∃ d s, isName s = true ∧ dIx (.str smallS) (.int m) = some d ∧ dMul d (.int (1 + r)) = some (.str s) := by
  have z := nameB_ok m hm r hr
  unfold nameB at z
  cases e : dIx (.str smallS) (.int m) with
  | none => rw [e] at z; cases z
  | some d =>
    rw [e] at z
    cases e2 : dMul d (.int (1 + r)) with
    | none => rw [Option.bind_some, e2] at z; cases z
    | some y =>
      rw [Option.bind_some, e2] at z
      cases y with
      | str s => exact ⟨d, s, z, rfl, e2⟩
      | _ => cases z
theorem law_name {k : Nat} (h : 1 ≤ k) (n : Nat) : ∃ s, isName s = true ∧ callF info defs k f__law_name [.int n] = .ok (.str s) := by
  obtain ⟨k, rfl⟩ : ∃ j, k = j + 1 := ⟨k - 1, by omega⟩
  rw [show callF info defs (k + 1) f__law_name [.int n] = _ from c__law_name _ _]
  generalize callF info defs k = F at *
  simp [b__law_name, o_modI, o_divI]
  split
  · rcases (show (n : Int) / 5 % 4 = 0 ∨ (n : Int) / 5 % 4 = 1 ∨ (n : Int) / 5 % 4 = 2 ∨ (n : Int) / 5 % 4 = 3 by omega) with e | e | e | e
    · exact ⟨"x", by decide +kernel, by rw [e]; simp⟩
    · exact ⟨"y", by decide +kernel, by rw [e]; simp⟩
    · exact ⟨"z", by decide +kernel, by rw [e]; simp⟩
    · exact ⟨"f", by decide +kernel, by rw [e]; simp [show ∀ (a b c d : D), L2.atI [a, b, c, d] 3 = some d from fun a b c d => at_nat (n := 3) _ rfl]⟩
  · obtain ⟨d, s, h1, h2, h3⟩ := name_mk (m := n / 5 % 26) (r := n / 130 % 3) (by omega) (by omega)
    refine ⟨s, h1, ?_⟩
    have h2 : dIx (.str "abcdefghijklmnopqrstuvwxyz") (.int (↑n / 5 % 26)) = some d := by rw [← h2]; simp [smallS]
    have h3 : dMul d (.int (1 + ↑n / 130 % 3)) = some (.str s) := by rw [← h3]; simp
    rw [h2]
    simp [h3]
end K26

namespace K26
open PySem CH
theorem row_at {r : List Nat} (h : Row r) {i : Nat} (hi : i < 60) : ∃ x : Nat, x < 1000 ∧ L2.atI (nD r) (i : Int) = some (.int (x : Int)) := by
  have hl : i < r.length := by rw [h.len]; exact hi
  exact ⟨r[i], h.lt _ (List.getElem_mem hl), at_nat _ (nD_get (List.getElem?_eq_getElem hl))⟩
theorem row_mod {r : List Nat} (h : Row r) (i : Nat) : ∃ x : Nat, x < 1000 ∧ L2.atI (nD r) ((i : Int) % 60) = some (.int (x : Int)) := by
  obtain ⟨x, h1, h2⟩ := row_at h (i := i % 60) (by omega)
  exact ⟨x, h1, by rw [← h2]; simp⟩
/-- the number at i, or 0 -/
theorem row_or {r : List Nat} (h : Row r) (i : Nat) : ∃ z : Nat, ((i : Int) < 60 ∧ L2.atI (nD r) (i : Int) = some (.int (z : Int))) ∨ (¬ (i : Int) < 60 ∧ z = 0) := by
  by_cases hi : i < 60
  · obtain ⟨x, _, e⟩ := row_at h hi
    exact ⟨x, .inl ⟨by omega, e⟩⟩
  · exact ⟨0, .inr ⟨by omega, rfl⟩⟩
end K26

namespace K26
open PySem CH
theorem leaf_len {s : Str} (h : isLeaf s = true) : s.length ≤ lim := by
  unfold isLeaf at h
  simp only [Bool.or_eq_true, decide_eq_true_eq] at h
  rcases h with (h | h) | h
  · rw [h]; decide +kernel
  · rw [h]; decide +kernel
  · unfold isName at h
    simp only [Bool.and_eq_true, decide_eq_true_eq] at h
    have := h.1.2
    show s.length ≤ 1000000
    omega
theorem left_of_ok : ∀ (t : Tm) {k : Nat}, t.ok = true → t.dp + 3 ≤ k → ∀ m : Nat, callF info defs k f_left_of [t.d, .int (m : Int)] = .ok (.int (leftN t.lv m))
  | .lf s, k, ho, hk, m => by
    obtain ⟨k, rfl⟩ : ∃ j, k = j + 1 := ⟨k - 1, by omega⟩
    have ho : isLeaf s = true := ho
    have h1 := is_leaf_ok (k := k) (by omega) s (leaf_len ho)
    refine (c_left_of _ _).trans ?_
    generalize callF info defs k = F at *
    rw [ho] at h1
    simp [b_left_of, Tm.d, h1]
    show _ = leftN 1 m
    by_cases h : 1 ≤ m
    · rw [leftN_le h]; rfl
    · rw [leftN_gt h]; omega
  | .ap a b, k, ho, hk, m => by
    obtain ⟨k, rfl⟩ : ∃ j, k = j + 1 := ⟨k - 1, by omega⟩
    have hk : max a.dp b.dp + 1 + 3 ≤ k + 1 := hk
    have ho : (a.ok && b.ok) = true := ho
    rw [Bool.and_eq_true] at ho
    have pa := a.lv_pos
    have pb := b.lv_pos
    show _ = R.ok (PyData.int (leftN (a.lv + b.lv) m))
    refine (c_left_of _ _).trans ?_
    by_cases hm : m < 2
    · generalize callF info defs k = F at *
      rw [leftN_gt (show ¬ a.lv + b.lv ≤ m by omega)]
      simp [b_left_of, Tm.d, show (m : Int) < 2 by omega]
    · have h1 := left_of_ok a (k := k) ho.1 (by omega) (m - 1)
      have e1 : ((m - 1 : Nat) : Int) = (m : Int) - 1 := by omega
      rw [e1] at h1
      by_cases ha : a.lv ≤ m - 1
      · have h2 := left_of_ok b (k := k) ho.2 (by omega) (m - a.lv)
        have e2 : ((m - a.lv : Nat) : Int) = (m : Int) - 1 - a.lv + 1 := by omega
        rw [e2] at h2
        rw [leftN_le ha, e1] at h1
        generalize callF info defs k = F at *
        have h3 : leftN b.lv (m - a.lv) = leftN (a.lv + b.lv) m := by
          by_cases hb : b.lv ≤ m - a.lv
          · rw [leftN_le hb, leftN_le (by omega)]; omega
          · rw [leftN_gt hb, leftN_gt (by omega)]
        rw [h3] at h2
        simp [b_left_of, Tm.d, show ¬ (m : Int) < 2 by omega, h1, h2, show ¬ (m : Int) - 1 - a.lv < 0 by omega]
      · rw [leftN_gt ha] at h1
        generalize callF info defs k = F at *
        rw [leftN_gt (show ¬ a.lv + b.lv ≤ m by omega)]
        simp [b_left_of, Tm.d, show ¬ (m : Int) < 2 by omega, h1]
theorem is_term_ok (t : Tm) {k : Nat} (ho : t.ok = true) (hk : t.dp + 4 ≤ k) : callF info defs k f_is_term [t.d] = .ok (.bool (decide (t.lv ≤ 200))) := by
  obtain ⟨k, rfl⟩ : ∃ j, k = j + 1 := ⟨k - 1, by omega⟩
  have h1 := left_of_ok t (k := k) ho (by omega) 200
  refine (c_is_term _ _).trans ?_
  generalize callF info defs k = F at *
  have h1 : F f_left_of [t.d, .int 200] = .ok (.int (leftN t.lv 200)) := h1
  simp [b_is_term, h1]
  by_cases h : t.lv ≤ 200
  · rw [leftN_le h]; simp [h]; omega
  · rw [leftN_gt h]; simp [h]
theorem checked_ok (t : Tm) {k : Nat} (ho : t.ok = true) (hl : t.lv ≤ 200) (hk : t.dp + 5 ≤ k) : callF info defs k f_checked [t.d] = .ok t.d := by
  obtain ⟨k, rfl⟩ : ∃ j, k = j + 1 := ⟨k - 1, by omega⟩
  have h1 := is_term_ok t (k := k) ho (by omega)
  refine (c_checked _ _).trans ?_
  generalize callF info defs k = F at *
  simp [b_checked, h1, hl]
theorem looked_ok (t : Tm) {k : Nat} (ho : t.ok = true) (hl : t.lv ≤ 200) (hk : t.dp + 5 ≤ k) : callF info defs k f_looked [t.d] = .ok t.d := by
  obtain ⟨k, rfl⟩ : ∃ j, k = j + 1 := ⟨k - 1, by omega⟩
  have h1 := is_term_ok t (k := k) ho (by omega)
  refine (c_looked _ _).trans ?_
  generalize callF info defs k = F at *
  simp [b_looked, h1, hl]
end K26

namespace K26
open PySem CH
theorem is_within_ok {k : Nat} (h : 1 ≤ k) (n a b : Int) : callF info defs k f_is_within [.int n, .int a, .int b] = .ok (.bool (decide (a ≤ n) && decide (n ≤ b))) := by
  obtain ⟨k, rfl⟩ : ∃ j, k = j + 1 := ⟨k - 1, by omega⟩
  refine (c_is_within _ _).trans ?_
  generalize callF info defs k = F at *
  simp [b_is_within, tyS]
  split <;> simp [*]
theorem deed_ok {k : Nat} (h : 1 ≤ k) : ∀ t : Tm, callF info defs k f_deed_of [t.d] = .ok (.str (deedS t.deed)) := by
  intro t
  obtain ⟨k, rfl⟩ : ∃ j, k = j + 1 := ⟨k - 1, by omega⟩
  refine (c_deed_of _ _).trans ?_
  generalize callF info defs k = F at *
  match t with
  | .lf s => simp [b_deed_of, Tm.d, Tm.deed, deedS]
  | .ap (.lf s) y => simp [b_deed_of, Tm.d, Tm.deed, deedS]
  | .ap (.ap (.lf q) x) y =>
    by_cases e : q = "K"
    · simp [b_deed_of, Tm.d, Tm.deed, deedS, e]
    · simp [b_deed_of, Tm.d, Tm.deed, deedS, e]
  | .ap (.ap (.ap (.lf q) x) y) z =>
    by_cases e : q = "S"
    · simp [b_deed_of, Tm.d, Tm.deed, deedS, e]
    · simp [b_deed_of, Tm.d, Tm.deed, deedS, e]
  | .ap (.ap (.ap (.ap p q) x) y) z => simp [b_deed_of, Tm.d, Tm.deed, deedS]
theorem done_ok {k : Nat} (h : 2 ≤ k) (t : Tm) (ht : t.deed ≠ 0) : callF info defs k f_done [t.d] = .ok t.done.d := by
  obtain ⟨k, rfl⟩ : ∃ j, k = j + 1 := ⟨k - 1, by omega⟩
  have h1 := deed_ok (k := k) (by omega) t
  refine (c_done _ _).trans ?_
  generalize callF info defs k = F at *
  match t, ht, h1 with
  | .lf s, ht, h1 => exact absurd rfl ht
  | .ap (.lf s) y, ht, h1 => exact absurd rfl ht
  | .ap (.ap (.lf q) x) y, ht, h1 =>
    by_cases e : q = "K"
    · simp [Tm.deed, e, deedS, Tm.d] at h1
      simp [b_done, Tm.d, Tm.done, h1, e]
    · exact absurd (by simp [Tm.deed, e]) ht
  | .ap (.ap (.ap (.lf q) x) y) z, ht, h1 =>
    by_cases e : q = "S"
    · simp [Tm.deed, e, deedS, Tm.d] at h1
      simp [b_done, Tm.d, Tm.done, h1, e, show ¬ ("S" : Str) = "K" by decide +kernel]
    · exact absurd (by simp [Tm.deed, e]) ht
  | .ap (.ap (.ap (.ap p q) x) y) z, ht, h1 => exact absurd rfl ht
theorem ways_len : ∀ (t : Tm) (w : List Nat), w ∈ t.ways → w.length ≤ t.dp
  | .lf _, w, h => by cases h
  | .ap a b, w, h => by
    show w.length ≤ max a.dp b.dp + 1
    simp only [Tm.ways, List.mem_append, List.mem_map] at h
    rcases h with h | ⟨v, hv, rfl⟩ | ⟨v, hv, rfl⟩
    · split at h
      · rw [List.mem_singleton.mp h]; exact Nat.zero_le _
      · cases h
    · have := ways_len a v hv
      rw [List.length_cons]; omega
    · have := ways_len b v hv
      rw [List.length_cons]; omega
theorem ways_num : ∀ (t : Tm), t.ways.length < t.lv
  | .lf _ => Nat.lt_succ_self _
  | .ap a b => by
    have h1 := ways_num a
    have h2 := ways_num b
    have h3 : (if (Tm.ap a b).deed ≠ 0 then [[]] else ([] : List (List Nat))).length ≤ 1 := by split <;> simp
    show (Tm.ways (.ap a b)).length < a.lv + b.lv
    simp only [Tm.ways, List.length_append, List.length_map]
    omega
theorem ways_of_ok : ∀ (t : Tm) {k : Nat}, t.dp + 2 ≤ k → t.lv ≤ 400 → callF info defs k f_ways_of [t.d] = .ok (wsD t.ways)
  | .lf s, k, hk, hl => by
    obtain ⟨k, rfl⟩ : ∃ j, k = j + 1 := ⟨k - 1, by omega⟩
    refine (c_ways_of _ _).trans ?_
    generalize callF info defs k = F at *
    simp [b_ways_of, Tm.d, Tm.ways, wsD]
  | .ap a b, k, hk, hl => by
    obtain ⟨k, rfl⟩ : ∃ j, k = j + 1 := ⟨k - 1, by omega⟩
    have hk : max a.dp b.dp + 1 + 2 ≤ k + 1 := hk
    have hl : a.lv + b.lv ≤ 400 := hl
    have pa := a.lv_pos
    have pb := b.lv_pos
    have h1 := ways_of_ok a (k := k) (by omega) (by omega)
    have h2 := ways_of_ok b (k := k) (by omega) (by omega)
    have h3 := deed_ok (k := k) (by omega) (.ap a b)
    have la := ways_num a
    have lb := ways_num b
    have cmp : ∀ (x : Nat) (t : Tm) (bd : D → Option (List Sl)) (test : M Bool) (elt : M D), t.lv ≤ 400 → (∀ w, w.length ≤ 400 → ∃ ρ, bd (wD w) = some ρ ∧ test ρ = .ok true ∧ elt ρ = .ok (wD (x :: w))) →
        compL bd test elt (t.ways.map wD) = .ok ((t.ways.map (x :: ·)).map wD) := fun x t bd test elt hlt h => by
      rw [compL_map wD (fun _ => true) (fun w => wD (x :: w)) fun w hw => ?_]
      · rw [List.filter_eq_self.mpr fun _ _ => rfl, List.map_map]; rfl
      · have := ways_len t w hw
        have := t.dp_lv
        obtain ⟨ρ, e1, e2, e3⟩ := h w (by omega)
        exact ⟨ρ, e1, e2, fun _ => e3⟩
    refine (c_ways_of _ _).trans ?_
    generalize callF info defs k = F at *
    have h3 : F f_deed_of [.tuple [a.d, b.d]] = _ := h3
    by_cases hd : (Tm.ap a b).deed = 0
    · simp [b_ways_of, Tm.d, h1, h2, h3, tru_deed, hd, wsD]
      rw [cmp 0 a _ _ _ (by omega) fun w hw => ⟨_, rfl, by simp, by simp [wD, show 1 + w.length ≤ lim by show _ ≤ 1000000; omega]⟩]
      simp [h2, wsD, show a.ways.length ≤ lim by show _ ≤ 1000000; omega]
      rw [cmp 1 b _ _ _ (by omega) fun w hw => ⟨_, rfl, by simp, by simp [wD, show 1 + w.length ≤ lim by show _ ≤ 1000000; omega]⟩]
      simp [Tm.ways, hd, show a.ways.length + b.ways.length ≤ lim by show _ ≤ 1000000; omega]
    · simp [b_ways_of, Tm.d, h1, h2, h3, tru_deed, hd, wsD]
      rw [cmp 0 a _ _ _ (by omega) fun w hw => ⟨_, rfl, by simp, by simp [wD, show 1 + w.length ≤ lim by show _ ≤ 1000000; omega]⟩]
      simp [h2, wsD, show 1 + a.ways.length ≤ lim by show _ ≤ 1000000; omega]
      rw [cmp 1 b _ _ _ (by omega) fun w hw => ⟨_, rfl, by simp, by simp [wD, show 1 + w.length ≤ lim by show _ ≤ 1000000; omega]⟩]
      simp [Tm.ways, hd, wD, show a.ways.length + 1 + b.ways.length ≤ lim by show _ ≤ 1000000; omega]
end K26

namespace K26
open PySem CH
theorem part_at_ok {k : Nat} (h : 2 ≤ k) (t : Tm) (w : List Nat) : callF info defs k f_part_at [t.d, wD w] = .ok (match t.part w with | some u => u.d | none => .none) := by
  obtain ⟨k, rfl⟩ : ∃ j, k = j + 1 := ⟨k - 1, by omega⟩
  have hw : ∀ n : Nat, callF info defs k f_is_within [.int (n : Int), .int 0, .int 1] = .ok (.bool (decide (n ≤ 1))) := fun n => by
    rw [is_within_ok (by omega)]
    by_cases e : n ≤ 1
    · simp [e]; omega
    · simp [e]; omega
  refine (c_part_at _ _).trans ?_
  generalize callF info defs k = F at *
  refine gv_eq (gv_out ?_)
  simp [b_part_at, wD]
  refine wp_for (fun n ρ => ∃ (u : Tm) (s : Sl), ρ = [.dat u.d, .dat (wD w), s] ∧ t.part w = u.part (w.drop n)) ⟨t, _, rfl, rfl⟩ ?_ ?_
  · rintro n d ρ hd ⟨u, s, rfl, e⟩
    obtain ⟨x, hx, rfl⟩ : ∃ x, w[n]? = some x ∧ d = .int ((x : Nat) : Int) := by
      rw [nD, List.getElem?_map] at hd
      cases q : w[n]? with
      | none => rw [q] at hd; cases hd
      | some x => rw [q] at hd; cases hd; exact ⟨x, rfl, rfl⟩
    have hdr : w.drop n = x :: w.drop (n + 1) := by
      have hl := (List.getElem?_eq_some_iff.mp hx).1
      rw [List.drop_eq_getElem_cons hl]
      rw [List.getElem?_eq_getElem hl] at hx
      exact congrArg (· :: w.drop (n + 1)) (Option.some.inj hx)
    rw [hdr] at e
    refine ⟨_, rfl, ?_⟩
    match u, e with
    | .lf q, e =>
      have e : t.part w = none := by rw [e]; simp [Tm.part]
      simp [Tm.d, e]
    | .ap a b, e =>
      match x, e with
      | 0, e =>
        have z := hw 0
        simp at z
        simp [Tm.d, z]
        exact ⟨a, rfl, e⟩
      | 1, e =>
        have z := hw 1
        simp at z
        simp [Tm.d, z]
        exact ⟨b, rfl, e⟩
      | x + 2, e =>
        have e : t.part w = none := by rw [e]; simp [Tm.part]
        have z := hw (x + 2)
        simp at z
        simp [Tm.d, z, e]
  · rintro ρ ⟨u, s, rfl, e⟩
    simp at e
    simp [Tm.part] at e
    simp [e]
theorem with_part_ok : ∀ (w : List Nat) {k : Nat} (t u : Tm) (o : D), t.part w = some u → w.length + 1 ≤ k → w.length ≤ 1000 → ∀ o : Tm, callF info defs k f_with_part [t.d, wD w, o.d] = .ok (t.put w o).d
  | [], k, t, u, _, h, hk, hl, o => by
    obtain ⟨k, rfl⟩ : ∃ j, k = j + 1 := ⟨k - 1, by omega⟩
    refine (c_with_part _ _).trans ?_
    generalize callF info defs k = F at *
    simp [b_with_part, wD, eq_tnil, Tm.put]
  | x :: w, k, .lf s, u, _, h, hk, hl, o => by simp [Tm.part] at h
  | x :: w, k, .ap a b, u, od, h, hk, hl, o => by
    obtain ⟨k, rfl⟩ : ∃ j, k = j + 1 := ⟨k - 1, by omega⟩
    have hk : w.length + 1 + 1 ≤ k + 1 := hk
    have hl : w.length + 1 ≤ 1000 := hl
    match x, h with
    | 0, h =>
      have ih := with_part_ok w (k := k) a u od h (by omega) (by omega) o
      refine (c_with_part _ _).trans ?_
      generalize callF info defs k = F at *
      simp only [wD] at ih
      simp [b_with_part, wD, eq_tnil, Tm.put, Tm.d, cut_tail, ih]
    | 1, h =>
      have ih := with_part_ok w (k := k) b u od h (by omega) (by omega) o
      refine (c_with_part _ _).trans ?_
      generalize callF info defs k = F at *
      simp only [wD] at ih
      simp [b_with_part, wD, eq_tnil, Tm.put, Tm.d, cut_tail, ih]
    | x + 2, h => simp [Tm.part] at h
theorem look_way_ok {k : Nat} (h : 3 ≤ k) (t u : Tm) (w : List Nat) (hp : t.part w = some u) (hd : u.deed ≠ 0) : callF info defs k f_look_way [t.d, wD w] = .ok u.d := by
  obtain ⟨k, rfl⟩ : ∃ j, k = j + 1 := ⟨k - 1, by omega⟩
  have h1 := part_at_ok (k := k) (by omega) t w
  have h2 := deed_ok (k := k) (by omega) u
  rw [hp] at h1
  have hn : isN u.d = false := by cases u <;> rfl
  refine (c_look_way _ _).trans ?_
  generalize callF info defs k = F at *
  simp [b_look_way, h1, h2, tru_deed, hd, hn]
theorem step_to_ok {k : Nat} (t u : Tm) (w : List Nat) (hp : t.part w = some u) (hd : u.deed ≠ 0) (hk : w.length + 4 ≤ k) (hl : w.length ≤ 1000) : callF info defs k f_step_to [t.d, wD w] = .ok (t.step w).d := by
  obtain ⟨k, rfl⟩ : ∃ j, k = j + 1 := ⟨k - 1, by omega⟩
  have h1 := look_way_ok (k := k) (by omega) t u w hp hd
  have h2 := done_ok (k := k) (by omega) u hd
  have h3 := with_part_ok w (k := k) t u .none hp (by omega) hl u.done
  refine (c_step_to _ _).trans ?_
  generalize callF info defs k = F at *
  simp [b_step_to, h1, h2, h3, Tm.step, hp]
end K26

namespace K26
open PySem CH
theorem part_len : ∀ (w : List Nat) (t u : Tm), t.part w = some u → w.length ≤ t.dp
  | [], t, u, h => Nat.zero_le _
  | x :: w, .lf s, u, h => by simp [Tm.part] at h
  | 0 :: w, .ap a b, u, h => by
    have := part_len w a u h
    simp [Tm.dp]; omega
  | 1 :: w, .ap a b, u, h => by
    have := part_len w b u h
    simp [Tm.dp]; omega
  | (x + 2) :: w, .ap a b, u, h => by simp [Tm.part] at h
theorem led_ok {k : Nat} (t e : Tm) (row : List (List Nat)) (ho : t.ok = true) (hl : t.lv ≤ 200) (hw : t.walk row = some e) (hk : t.whi row + 7 ≤ k) : callF info defs k f_led [t.d, wsD row] = .ok e.d := by
  obtain ⟨k, rfl⟩ : ∃ j, k = j + 1 := ⟨k - 1, by omega⟩
  have dpw : t.dp ≤ t.whi row := by cases row <;> simp [Tm.whi]; omega
  have hc := checked_ok t (k := k) ho hl (by omega)
  have hs : ∀ (t u : Tm) (w : List Nat), t.ok = true → t.lv ≤ 200 → t.part w = some u → u.deed ≠ 0 → t.dp + 4 ≤ k → callF info defs k f_step_to [t.d, wD w] = .ok (t.step w).d := fun t u w h1 h2 h3 h4 h5 => by
    have := part_len w t u h3
    have := t.dp_lv
    exact step_to_ok t u w h3 h4 (by omega) (by omega)
  have hlk : ∀ t : Tm, t.ok = true → t.lv ≤ 200 → t.dp + 5 ≤ k → callF info defs k f_looked [t.d] = .ok t.d := fun t h1 h2 h3 => looked_ok t h1 h2 h3
  refine (c_led _ _).trans ?_
  generalize callF info defs k = F at *
  refine gv_eq (gv_out ?_)
  simp [b_led, hc, wsD]
  refine wp_for (fun n ρ => ∃ (u : Tm) (s : Sl), ρ = [.dat u.d, .dat (wsD row), s] ∧ u.ok = true ∧ u.lv ≤ 200 ∧ u.walk (row.drop n) = some e ∧ u.whi (row.drop n) ≤ t.whi row) ⟨t, _, rfl, ho, hl, hw, Nat.le_refl _⟩ ?_ ?_
  · rintro n d ρ hd ⟨u, s, rfl, h1, h2, h3, h4⟩
    obtain ⟨w, hx, rfl⟩ : ∃ w, row[n]? = some w ∧ d = wD w := by
      rw [List.getElem?_map] at hd
      cases q : row[n]? with
      | none => rw [q] at hd; cases hd
      | some x => rw [q] at hd; cases hd; exact ⟨x, rfl, rfl⟩
    have hdr : row.drop n = w :: row.drop (n + 1) := by
      have hl := (List.getElem?_eq_some_iff.mp hx).1
      rw [List.drop_eq_getElem_cons hl]
      rw [List.getElem?_eq_getElem hl] at hx
      exact congrArg (· :: row.drop (n + 1)) (Option.some.inj hx)
    rw [hdr] at h3 h4
    simp only [Tm.walk] at h3
    simp only [Tm.whi] at h4
    cases hp : u.part w with
    | none => rw [hp] at h3; cases h3
    | some v =>
      rw [hp] at h3
      simp only at h3
      split at h3
      · rename_i hc2
        have ho2 := u.step_okk w h1
        have hdp : (u.step w).dp ≤ (u.step w).whi (row.drop (n + 1)) := by cases row.drop (n + 1) <;> simp [Tm.whi]; omega
        refine ⟨_, rfl, ?_⟩
        simp [hs u v w h1 h2 hp hc2.1 (by omega), hlk (u.step w) ho2 hc2.2 (by omega)]
        exact ⟨_, rfl, ho2, hc2.2, h3, by omega⟩
      · cases h3
  · rintro ρ ⟨u, s, rfl, h1, h2, h3, h4⟩
    simp [Tm.walk] at h3
    simp [h3]
theorem played_ok {k : Nat} (t : Tm) (most : Nat) (ho : t.ok = true) (hl : t.lv ≤ 200) (hm : most ≤ 400) (hk : t.hi most + 7 ≤ k) : callF info defs k f_played [t.d, .int (most : Int)] = .ok (.tuple [(t.play most).1.d, wsD (t.play most).2]) := by
  obtain ⟨k, rfl⟩ : ∃ j, k = j + 1 := ⟨k - 1, by omega⟩
  have dpw := t.hi_dp most
  have hc := checked_ok t (k := k) ho hl (by omega)
  have hw : callF info defs k f_is_within [.int (most : Int), .int 0, .int 400] = .ok (.bool true) := by
    rw [is_within_ok (by omega)]
    simp; omega
  have hs : ∀ (t u : Tm) (w : List Nat), t.ok = true → t.lv ≤ 200 → t.part w = some u → u.deed ≠ 0 → t.dp + 4 ≤ k → callF info defs k f_step_to [t.d, wD w] = .ok (t.step w).d := fun t u w h1 h2 h3 h4 h5 => by
    have := part_len w t u h3
    have := t.dp_lv
    exact step_to_ok t u w h3 h4 (by omega) (by omega)
  have hwo : ∀ t : Tm, t.lv ≤ 200 → t.dp + 2 ≤ k → callF info defs k f_ways_of [t.d] = .ok (wsD t.ways) := fun t h1 h2 => ways_of_ok t h2 (by omega)
  have hit : ∀ t : Tm, t.ok = true → t.dp + 4 ≤ k → callF info defs k f_is_term [t.d] = .ok (.bool (decide (t.lv ≤ 200))) := fun t h1 h2 => is_term_ok t h1 h2
  refine (c_played _ _).trans ?_
  generalize callF info defs k = F at *
  refine gv_eq (gv_out ?_)
  simp [b_played, hc, hw]
  refine wp_while (fun m ρ => ∃ (u : Tm) (r : List (List Nat)) (s : Sl), ρ = [.dat u.d, .dat (.int (most : Int)), .own (r.map wD), s] ∧ r.length + m = most ∧ u.ok = true ∧ u.lv ≤ 200 ∧ u.hi m ≤ t.hi most ∧ (t.play most).1 = (u.play m).1 ∧ (t.play most).2 = r ++ (u.play m).2) most (by show most < 1000000; omega)
    ⟨t, [], _, rfl, by simp, ho, hl, Nat.le_refl _, rfl, by simp⟩ ?_
  rintro m ρ ⟨u, r, s, rfl, h1, h2, h3, h4, h5, h6⟩
  cases m with
  | zero =>
    refine .inl ⟨by simp; omega, ?_⟩
    simp [Tm.play] at h5 h6
    simp [h5, h6, wsD]
  | succ m =>
    have hdu := u.hi_dp (m + 1)
    refine .inr ⟨by simp; omega, ?_⟩
    have hw1 := hwo u h3 (by omega)
    cases e : u.ways with
    | nil =>
      rw [e] at hw1
      simp [Tm.play, e] at h5 h6
      simp [hw1, wsD, h5, h6]
    | cons w ws =>
      obtain ⟨v, hp, hd⟩ := u.ways_part w (by rw [e]; exact List.mem_cons_self ..)
      rw [e] at hw1
      have hs1 := hs u v w h2 h3 hp hd (by omega)
      have ho2 := u.step_okk w h2
      simp only [Tm.hi, e] at h4
      simp only [Tm.play, e] at h5 h6
      by_cases hlv : (u.step w).lv ≤ 200
      · rw [if_pos hlv] at h4 h5 h6
        have hdv := (u.step w).hi_dp m
        have hi1 := hit (u.step w) ho2 (by omega)
        simp [hw1, wsD, hs1, hi1, hlv, show r.length < lim by show _ < 1000000; omega]
        refine ⟨m, by omega, u.step w, r ++ [w], ⟨rfl, by simp⟩, by simp; omega, ho2, hlv, by omega, h5, by simp [h6]⟩
      · rw [if_neg hlv] at h4 h5 h6
        have hi1 := hit (u.step w) ho2 (by omega)
        simp [hw1, wsD, hs1, hi1, hlv]
        simp at h5 h6
        simp [h5, h6]
end K26

namespace K26
open PySem CH
def peel : Tm → Nat × Tm
  | .ap (.lf s) b => if s = "f" then ((peel b).1 + 1, (peel b).2) else (0, .ap (.lf s) b)
  | t => (0, t)
def countT (t : Tm) (most : Nat) : Option Nat :=
  let e := peel ((Tm.ap (.ap t (.lf "f")) (.lf "x")).play most).1
  if e.2 = .lf "x" then some e.1 else none
def optD : Option Nat → D
  | some n => .int (n : Int)
  | none => .none
theorem counted_ok {k : Nat} (t : Tm) (most : Nat) (ho : t.ok = true) (hl : t.lv + 2 ≤ 200) (hm : most ≤ 400) (hk : (Tm.ap (.ap t (.lf "f")) (.lf "x")).hi most + 8 ≤ k) : callF info defs k f_counted [t.d, .int (most : Int)] = .ok (optD (countT t most)) := by
  obtain ⟨k, rfl⟩ : ∃ j, k = j + 1 := ⟨k - 1, by omega⟩
  have hd0 := (Tm.ap (.ap t (.lf "f")) (.lf "x")).hi_dp most
  have hdt : t.dp + 2 ≤ (Tm.ap (.ap t (.lf "f")) (.lf "x")).dp := by simp [Tm.dp]
  have ho2 : (Tm.ap (.ap t (.lf "f")) (.lf "x")).ok = true := by
    simp [Tm.ok, ho]
    decide +kernel
  have hl2 : (Tm.ap (.ap t (.lf "f")) (.lf "x")).lv ≤ 200 := by simp [Tm.lv]; omega
  have hc := checked_ok t (k := k) ho (by omega) (by omega)
  have hw : callF info defs k f_is_within [.int (most : Int), .int 0, .int 400] = .ok (.bool true) := by
    rw [is_within_ok (by omega)]
    simp; omega
  have hlk := looked_ok (Tm.ap (.ap t (.lf "f")) (.lf "x")) (k := k) ho2 hl2 (by omega)
  have hp := played_ok (Tm.ap (.ap t (.lf "f")) (.lf "x")) most (k := k) ho2 hl2 hm (by omega)
  refine (c_counted _ _).trans ?_
  generalize callF info defs k = F at *
  unfold countT
  have hbig : ((Tm.ap (.ap t (.lf "f")) (.lf "x")).play most).1.lv < turns := by
    have := Tm.play_lv most _ hl2
    show _ < 1000000
    omega
  generalize ((Tm.ap (.ap t (.lf "f")) (.lf "x")).play most).2 = r at hp
  generalize ((Tm.ap (.ap t (.lf "f")) (.lf "x")).play most).1 = e at hp hbig ⊢
  simp only [Tm.d] at hlk hp
  refine gv_eq (gv_out ?_)
  simp [b_counted, hc, hw, hlk, hp]
  refine wp_while (fun m ρ => ∃ (u : Tm) (n : Nat), ρ = [.dat t.d, .dat (.int (most : Int)), .dat u.d, .dat (.int (n : Int))] ∧ m = u.lv ∧ (peel e).1 = n + (peel u).1 ∧ (peel e).2 = (peel u).2) e.lv hbig ?_ ?_
  · exact ⟨e, 0, by simp, rfl, by simp, rfl⟩
  rintro m ρ ⟨u, n, rfl, rfl, h1, h2⟩
  match u, h1, h2 with
  | .lf s, h1, h2 =>
    refine .inl ⟨by simp [Tm.d], ?_⟩
    simp [peel] at h1 h2
    simp [Tm.d, h1, h2]
    by_cases hx : s = "x" <;> simp [hx, optD]
  | .ap (.ap a b) c, h1, h2 =>
    refine .inl ⟨by simp [Tm.d], ?_⟩
    simp [peel] at h1 h2
    simp [Tm.d, h1, h2, optD]
  | .ap (.lf s) b, h1, h2 =>
    by_cases hs : s = "f"
    · refine .inr ⟨by simp [Tm.d, hs], ?_⟩
      simp [peel, hs] at h1 h2
      simp [Tm.d, hs]
      exact ⟨b.lv, by simp [Tm.lv], b, n + 1, ⟨rfl, by simp⟩, rfl, by omega, h2⟩
    · refine .inl ⟨by simp [Tm.d, hs], ?_⟩
      simp [peel, hs] at h1 h2
      simp [Tm.d, h1, h2, optD]
def SAMEt : Tm := .ap (.ap (.lf "S") (.lf "K")) (.lf "K")
def BEHINDt : Tm := .ap (.ap (.lf "S") (.ap (.lf "K") (.lf "S"))) (.lf "K")
def MOREt : Tm := .ap (.lf "S") BEHINDt
def PLUSt : Tm := .ap (.ap (.lf "S") SAMEt) (.ap (.lf "K") MOREt)
def numT : Nat → Tm
  | 0 => .ap (.lf "K") SAMEt
  | n + 1 => .ap MOREt (numT n)
theorem number_term_ok {k : Nat} (hk : 2 ≤ k) (n : Nat) (hn : n ≤ 12) : callF info defs k f_number_term [.int (n : Int)] = .ok (numT n).d := by
  obtain ⟨k, rfl⟩ : ∃ j, k = j + 1 := ⟨k - 1, by omega⟩
  have hw : callF info defs k f_is_within [.int (n : Int), .int 0, .int 12] = .ok (.bool true) := by
    rw [is_within_ok (by omega)]
    simp; omega
  refine (c_number_term _ _).trans ?_
  generalize callF info defs k = F at *
  refine gv_eq (gv_out ?_)
  simp [b_number_term, hw, o_rg1 n (rsm_nat (by omega))]
  refine wp_for (fun i ρ => ∃ s, ρ = [.dat (.int (n : Int)), .dat (numT i).d, s]) ⟨_, rfl⟩ ?_ ?_
  · rintro i d ρ hd ⟨s, rfl⟩
    refine ⟨_, rfl, ?_⟩
    simp
    rfl
  · rintro ρ ⟨s, rfl⟩
    simp
end K26

namespace K26
open PySem CH
def sub (σ : Str → Str) : Tm → Tm
  | .lf s => .lf (σ s)
  | .ap a b => .ap (sub σ a) (sub σ b)
structure SubOk (σ : Str → Str) : Prop where
  K : ∀ s, σ s = "K" ↔ s = "K"
  S : ∀ s, σ s = "S" ↔ s = "S"
section
variable {σ : Str → Str} (h : SubOk σ)
include h
theorem sub_deed : ∀ t : Tm, (sub σ t).deed = t.deed
  | .lf _ => rfl
  | .ap (.lf _) _ => rfl
  | .ap (.ap (.lf q) x) y => by
    simp only [sub, Tm.deed]
    by_cases e : q = "K"
    · rw [if_pos e, if_pos ((h.K q).mpr e)]
    · rw [if_neg e, if_neg fun z => e ((h.K q).mp z)]
  | .ap (.ap (.ap (.lf q) x) y) z => by
    simp only [sub, Tm.deed]
    by_cases e : q = "S"
    · rw [if_pos e, if_pos ((h.S q).mpr e)]
    · rw [if_neg e, if_neg fun z => e ((h.S q).mp z)]
  | .ap (.ap (.ap (.ap p q) x) y) z => rfl
theorem sub_ways : ∀ t : Tm, (sub σ t).ways = t.ways
  | .lf _ => rfl
  | .ap a b => by
    have e := sub_deed h (.ap a b)
    simp only [sub] at e
    simp only [sub, Tm.ways, e, sub_ways a, sub_ways b]
omit h in
theorem sub_done : ∀ t : Tm, (sub σ t).done = sub σ t.done
  | .lf _ => rfl
  | .ap (.lf _) _ => rfl
  | .ap (.ap (.lf q) x) y => rfl
  | .ap (.ap (.ap (.lf q) x) y) z => rfl
  | .ap (.ap (.ap (.ap p q) x) y) z => rfl
omit h in
theorem sub_part : ∀ (w : List Nat) (t : Tm), (sub σ t).part w = (t.part w).map (sub σ)
  | [], t => by rw [Tm.part_nil, Tm.part_nil]; rfl
  | x :: w, .lf s => by simp [sub, Tm.part]
  | 0 :: w, .ap a b => sub_part w a
  | 1 :: w, .ap a b => sub_part w b
  | (x + 2) :: w, .ap a b => by simp [sub, Tm.part]
omit h in
theorem sub_put : ∀ (w : List Nat) (t o : Tm), (sub σ t).put w (sub σ o) = sub σ (t.put w o)
  | [], t, o => by cases t <;> simp [sub, Tm.put]
  | x :: w, .lf s, o => by simp [sub, Tm.put]
  | 0 :: w, .ap a b, o => by simp [sub, Tm.put, sub_put w a o]
  | (x + 1) :: w, .ap a b, o => by simp [sub, Tm.put, sub_put w b o]
omit h in
theorem sub_step (t : Tm) (w : List Nat) : (sub σ t).step w = sub σ (t.step w) := by
  unfold Tm.step
  rw [sub_part]
  cases t.part w with
  | none => rfl
  | some u => simp only [Option.map_some]; rw [sub_done, sub_put]
omit h in
theorem sub_lv : ∀ t : Tm, (sub σ t).lv = t.lv
  | .lf _ => rfl
  | .ap a b => by simp [sub, Tm.lv, sub_lv a, sub_lv b]
omit h in
theorem sub_dp : ∀ t : Tm, (sub σ t).dp = t.dp
  | .lf _ => rfl
  | .ap a b => by simp [sub, Tm.dp, sub_dp a, sub_dp b]
theorem sub_play : ∀ (n : Nat) (t : Tm), (sub σ t).play n = (sub σ (t.play n).1, (t.play n).2)
  | 0, t => rfl
  | n + 1, t => by
    unfold Tm.play
    rw [sub_ways h]
    cases t.ways with
    | nil => rfl
    | cons w r =>
      simp only [sub_step, sub_lv, sub_play n]
      split <;> rfl
theorem sub_hi : ∀ (n : Nat) (t : Tm), (sub σ t).hi n = t.hi n
  | 0, t => sub_dp t
  | n + 1, t => by
    unfold Tm.hi
    rw [sub_ways h, sub_dp]
    cases t.ways with
    | nil => rfl
    | cons w r => simp only [sub_step, sub_lv, sub_hi n, sub_dp]
omit h in
theorem sub_whi : ∀ (r : List (List Nat)) (t : Tm), (sub σ t).whi r = t.whi r
  | [], t => sub_dp t
  | w :: r, t => by simp only [Tm.whi, sub_dp, sub_step, sub_whi r]
end
def twoS (a b : Str) (s : Str) : Str := if s = "f" then a else if s = "x" then b else s
theorem twoS_ok {a b : Str} (ha : isName a = true) (hb : isName b = true) : SubOk (twoS a b) := by
  have nk : isName "K" = false := by decide +kernel
  have ns : isName "S" = false := by decide +kernel
  have fk : ("f" : Str) ≠ "K" := by decide +kernel
  have fs : ("f" : Str) ≠ "S" := by decide +kernel
  have xk : ("x" : Str) ≠ "K" := by decide +kernel
  have xs : ("x" : Str) ≠ "S" := by decide +kernel
  constructor
  · intro s
    unfold twoS
    by_cases h1 : s = "f"
    · rw [if_pos h1, h1]
      exact ⟨fun z => (by rw [z, nk] at ha; cases ha), fun z => absurd z fk⟩
    · rw [if_neg h1]
      by_cases h2 : s = "x"
      · rw [if_pos h2, h2]
        exact ⟨fun z => (by rw [z, nk] at hb; cases hb), fun z => absurd z xk⟩
      · rw [if_neg h2]
  · intro s
    unfold twoS
    by_cases h1 : s = "f"
    · rw [if_pos h1, h1]
      exact ⟨fun z => (by rw [z, ns] at ha; cases ha), fun z => absurd z fs⟩
    · rw [if_neg h1]
      by_cases h2 : s = "x"
      · rw [if_pos h2, h2]
        exact ⟨fun z => (by rw [z, ns] at hb; cases hb), fun z => absurd z xs⟩
      · rw [if_neg h2]
end K26

namespace K26
open PySem CH
def goodC (t : Tm) (n : Nat) : Bool := t.ok && decide (t.lv ≤ 198) && decide (countT t 200 = some n) && decide ((Tm.ap (.ap t (.lf "f")) (.lf "x")).hi 200 ≤ 180)
theorem g_num : ∀ a, a < 6 → goodC (numT a) a = true := by decide +kernel
theorem g_plus : ∀ a, a < 5 → ∀ b, b < 5 → goodC (.ap (.ap PLUSt (numT a)) (numT b)) (a + b) = true := by decide +kernel
theorem g_times : ∀ a, a < 3 → ∀ b, b < 4 → goodC (.ap (.ap BEHINDt (numT a)) (numT b)) (a * b) = true := by decide +kernel
def numFX (a : Nat) : Tm := .ap (.ap (numT a) (.lf "f")) (.lf "x")
def fx : Nat → Tm
  | 0 => .lf "x"
  | n + 1 => .ap (.lf "f") (fx n)
theorem g_play : ∀ a, a < 3 → ((numFX a).play 200).1 = fx a ∧ (numFX a).hi 200 ≤ 180 ∧ (numFX a).whi ((numFX a).play 200).2 ≤ 180 ∧ (numFX a).ok = true ∧ (numFX a).lv ≤ 200 := by decide +kernel
end K26

namespace K26
open PySem CH
theorem counted_at {t : Tm} {n : Nat} (g : goodC t n = true) : callF info defs 199 f_counted [t.d, .int 200] = .ok (.int (n : Int)) := by
  unfold goodC at g
  simp only [Bool.and_eq_true, decide_eq_true_eq] at g
  obtain ⟨⟨⟨h1, h2⟩, h3⟩, h4⟩ := g
  have z := counted_ok (k := 199) t 200 h1 (by omega) (by omega) (by omega)
  rw [h3] at z
  exact z
theorem sub_ok {σ : Str → Str} (h : ∀ s, isLeaf s = true → isLeaf (σ s) = true) : ∀ t : Tm, t.ok = true → (sub σ t).ok = true
  | .lf s, ho => h s ho
  | .ap a b, ho => by
    simp [Tm.ok] at ho
    simp [sub, Tm.ok, sub_ok h a ho.1, sub_ok h b ho.2]
theorem two_leaf {a b : Str} (ha : isName a = true) (hb : isName b = true) (s : Str) (h : isLeaf s = true) : isLeaf (twoS a b s) = true := by
  unfold twoS
  split
  · simp [isLeaf, ha]
  · split
    · simp [isLeaf, hb]
    · exact h
theorem sub_num (a b : Str) : ∀ n, sub (twoS a b) (numT n) = numT n := by
  have fk : ¬ ("K" : Str) = "f" := by decide +kernel
  have fs : ¬ ("S" : Str) = "f" := by decide +kernel
  have xk : ¬ ("K" : Str) = "x" := by decide +kernel
  have xs : ¬ ("S" : Str) = "x" := by decide +kernel
  intro n
  induction n with
  | zero => simp [numT, SAMEt, sub, twoS, fk, fs, xk, xs]
  | succ n ih =>
    have e : sub (twoS a b) MOREt = MOREt := by simp [MOREt, BEHINDt, sub, twoS, fk, fs, xk, xs]
    simp only [numT, sub, ih, e]
theorem eq_Tm (t : Tm) (h : t.dp ≤ 400) : dEq t.d t.d = some (.bool true) := by
  rw [dEq_of _ _ (by rw [Tm.d_depth]; omega), Tm.eqv_d]
  simp
theorem fx_dp : ∀ n, (fx n).dp = n
  | 0 => rfl
  | n + 1 => by simp [fx, Tm.dp, fx_dp n]
theorem law_true : ∀ ns : List Int, ns.length ≤ 63 → (∀ z ∈ ns, PySem.Builtin.Int.intBits z ≤ 1048576) → callF info defs 200 f_law [.list (ns.map .int)] = .ok (.bool true) := by
  intro ns _ _
  obtain ⟨r, hr, er⟩ := law_row (k := 199) (by omega) ns 1
  obtain ⟨a, _, ha⟩ := row_at hr (i := 0) (by omega)
  obtain ⟨b, _, hb⟩ := row_at hr (i := 1) (by omega)
  obtain ⟨c, _, hc⟩ := row_at hr (i := 2) (by omega)
  obtain ⟨d, _, hd⟩ := row_at hr (i := 3) (by omega)
  obtain ⟨s1, hs1, es1⟩ := law_name (k := 199) (by omega) c
  obtain ⟨s2, hs2, es2⟩ := law_name (k := 199) (by omega) d
  have hn : ∀ n : Nat, n ≤ 12 → callF info defs 199 f_number_term [.int (n : Int)] = .ok (numT n).d := fun n h => number_term_ok (by omega) n h
  have hm : callF info defs 199 f_more [] = .ok MOREt.d := by
    refine (c_more 198 _).trans ?_
    simp [b_more]
    rfl
  have hp : callF info defs 199 f_plus [] = .ok PLUSt.d := by
    refine (c_plus 198 _).trans ?_
    simp [b_plus]
    rfl
  have ht : callF info defs 199 f_times [] = .ok BEHINDt.d := by
    refine (c_times 198 _).trans ?_
    simp [b_times]
    rfl
  have c1 := counted_at (g_num (a % 5) (by omega))
  have c2 := counted_at (g_num (a % 5 + 1) (by omega))
  have c3 := counted_at (g_plus (a % 5) (by omega) (b % 5) (by omega))
  have c4 := counted_at (g_times (a % 5 % 3) (by omega) (b % 5 % 4) (by omega))
  have hn1 := hn (a % 5) (by omega)
  have hn2 := hn (b % 5) (by omega)
  have hn3 := hn (a % 5 % 3) (by omega)
  have hn4 := hn (b % 5 % 4) (by omega)
  obtain ⟨p1, p2, p3, p4, p5⟩ := g_play (a % 5 % 3) (by omega)
  have so := twoS_ok hs1 hs2
  have okm : (sub (twoS s1 s2) (numFX (a % 5 % 3))).ok = true := sub_ok (two_leaf hs1 hs2) _ p4
  have lvm : (sub (twoS s1 s2) (numFX (a % 5 % 3))).lv ≤ 200 := by rw [sub_lv]; exact p5
  have e1 := played_ok (k := 199) (sub (twoS s1 s2) (numFX (a % 5 % 3))) 200 okm lvm (by omega) (by rw [sub_hi so]; omega)
  have wh : (sub (twoS s1 s2) (numFX (a % 5 % 3))).whi ((sub (twoS s1 s2) (numFX (a % 5 % 3))).play 200).2 + 7 ≤ 199 := by
    rw [sub_play so, sub_whi]
    show (numFX (a % 5 % 3)).whi ((numFX (a % 5 % 3)).play 200).2 + 7 ≤ 199
    omega
  have e2 := led_ok (k := 199) (sub (twoS s1 s2) (numFX (a % 5 % 3))) _ _ okm lvm (Tm.play_walk 200 _) wh
  rw [sub_play so, p1] at e1 e2
  have sf : twoS s1 s2 "f" = s1 := by simp [twoS]
  have sx : twoS s1 s2 "x" = s2 := by simp [twoS, show ¬ ("x" : Str) = "f" by decide +kernel]
  have dq := eq_Tm (sub (twoS s1 s2) (fx (a % 5 % 3))) (by rw [sub_dp, fx_dp]; omega)
  simp only [numFX, sub, sub_num, sf, sx, Tm.d] at e1 e2
  have er : callF info defs 199 f__law_row [.list (ns.map .int), .int 1] = .ok (.list (nD r)) := er
  refine (c_law 199 _).trans ?_
  generalize ((Tm.ap (.ap (numT (a % 5 % 3)) (.lf "f")) (.lf "x")).play 200).2 = ws at e1 e2
  generalize callF info defs 199 = F at *
  simp at ha hb hc hd c1 c2 c3 c4 hn1 hn2 hn3 hn4 e1 e2
  simp [numT, Tm.d] at c2 c3 c4
  refine gv_eq (gv_out ?_)
  simp [b_law, er, ha, hb, hc, hd, o_modI, hn1, hn2, hn3, hn4, hm, hp, ht, c1, c2, c3, c4, es1, es2, o_mulI _ ((b : Int) % 5 % 4) (by omega) (by omega), o_rg1 _ (smI_iff.mpr ⟨by omega, by omega⟩ : rsm ((a : Int) % 5 % 3) = true)]
  refine wp_for (fun i ρ => ∃ s, ρ = [.dat (.list (ns.map .int)), .dat (.list (nD r)), .dat (.int ((a : Int) % 5 % 3)), .dat (.int ((b : Int) % 5 % 4)), .dat (.str s1), .dat (.str s2), .dat (sub (twoS s1 s2) (fx i)).d, s, .no, .no]) ⟨_, by simp [fx, sub, sx, Tm.d]; rfl⟩ ?_ ?_
  · rintro i d ρ hd ⟨s, rfl⟩
    refine ⟨_, rfl, ?_⟩
    simp [fx, sub, sf, Tm.d]
  · rintro ρ ⟨s, rfl⟩
    have el : (rngD 0 ((a : Int) % 5 % 3)).length = a % 5 % 3 := by simp; omega
    rw [el]
    simp [hn3, e1, e2, dq]
end K26

namespace K26
open PySem PySem.Spec PyProof.Rows L2 CH
theorem w0 {K : PySem.W.Frag} {h : Heap} {mg : Str → Option Value} (X : K.In h) (G : h.Ns mainGlobals mg) {f : Addr} {oc : Value} {od an : Option Addr} {osl : Array (Option Value)} {kV doc pm cdv ct : Value}
    (a : PySem.W.nsIn K mainGlobals "is_within" = some (some (.ref f))) (l : K.lookup f = some ⟨oc, od, .func (PySem.W.fnOf "is_within" "is_within" (defArgs s0) (defBody s0) (defScope s0) .none kV doc pm an cdv ct), osl⟩) (c : PySem.W.codeIn K cdv "is_within" = true) (k : PySem.W.keepIn K (.ref f) = true) : DefT info d0 ∧ ∃ f fd, DefW K mg d0 f fd :=
  ⟨t0, f, _, DefW.plain (PySem.W.mg_of X G a) l c k fun us hl => match us, hl with | [_, _, _], _ => rfl⟩
theorem w1 {K : PySem.W.Frag} {h : Heap} {mg : Str → Option Value} (X : K.In h) (G : h.Ns mainGlobals mg) {f : Addr} {oc : Value} {od an : Option Addr} {osl : Array (Option Value)} {kV doc pm cdv ct : Value}
    (a : PySem.W.nsIn K mainGlobals "is_name" = some (some (.ref f))) (l : K.lookup f = some ⟨oc, od, .func (PySem.W.fnOf "is_name" "is_name" (defArgs s1) (defBody s1) (defScope s1) .none kV doc pm an cdv ct), osl⟩) (c : PySem.W.codeIn K cdv "is_name" = true) (k : PySem.W.keepIn K (.ref f) = true) : DefT info d1 ∧ ∃ f fd, DefW K mg d1 f fd :=
  ⟨t1, f, _, DefW.plain (PySem.W.mg_of X G a) l c k fun us hl => match us, hl with | [_], _ => rfl⟩
theorem w2 {K : PySem.W.Frag} {h : Heap} {mg : Str → Option Value} (X : K.In h) (G : h.Ns mainGlobals mg) {f : Addr} {oc : Value} {od an : Option Addr} {osl : Array (Option Value)} {kV doc pm cdv ct : Value}
    (a : PySem.W.nsIn K mainGlobals "is_leaf" = some (some (.ref f))) (l : K.lookup f = some ⟨oc, od, .func (PySem.W.fnOf "is_leaf" "is_leaf" (defArgs s2) (defBody s2) (defScope s2) .none kV doc pm an cdv ct), osl⟩) (c : PySem.W.codeIn K cdv "is_leaf" = true) (k : PySem.W.keepIn K (.ref f) = true) : DefT info d2 ∧ ∃ f fd, DefW K mg d2 f fd :=
  ⟨t2, f, _, DefW.plain (PySem.W.mg_of X G a) l c k fun us hl => match us, hl with | [_], _ => rfl⟩
theorem w3 {K : PySem.W.Frag} {h : Heap} {mg : Str → Option Value} (X : K.In h) (G : h.Ns mainGlobals mg) {f : Addr} {oc : Value} {od an : Option Addr} {osl : Array (Option Value)} {kV doc pm cdv ct : Value}
    (a : PySem.W.nsIn K mainGlobals "left_of" = some (some (.ref f))) (l : K.lookup f = some ⟨oc, od, .func (PySem.W.fnOf "left_of" "left_of" (defArgs s3) (defBody s3) (defScope s3) .none kV doc pm an cdv ct), osl⟩) (c : PySem.W.codeIn K cdv "left_of" = true) (k : PySem.W.keepIn K (.ref f) = true) : DefT info d3 ∧ ∃ f fd, DefW K mg d3 f fd :=
  ⟨t3, f, _, DefW.plain (PySem.W.mg_of X G a) l c k fun us hl => match us, hl with | [_, _], _ => rfl⟩
theorem w4 {K : PySem.W.Frag} {h : Heap} {mg : Str → Option Value} (X : K.In h) (G : h.Ns mainGlobals mg) {f : Addr} {oc : Value} {od an : Option Addr} {osl : Array (Option Value)} {kV doc pm cdv ct : Value}
    (a : PySem.W.nsIn K mainGlobals "is_term" = some (some (.ref f))) (l : K.lookup f = some ⟨oc, od, .func (PySem.W.fnOf "is_term" "is_term" (defArgs s4) (defBody s4) (defScope s4) .none kV doc pm an cdv ct), osl⟩) (c : PySem.W.codeIn K cdv "is_term" = true) (k : PySem.W.keepIn K (.ref f) = true) : DefT info d4 ∧ ∃ f fd, DefW K mg d4 f fd :=
  ⟨t4, f, _, DefW.plain (PySem.W.mg_of X G a) l c k fun us hl => match us, hl with | [_], _ => rfl⟩
theorem w5 {K : PySem.W.Frag} {h : Heap} {mg : Str → Option Value} (X : K.In h) (G : h.Ns mainGlobals mg) {f : Addr} {oc : Value} {od an : Option Addr} {osl : Array (Option Value)} {kV doc pm cdv ct : Value}
    (a : PySem.W.nsIn K mainGlobals "checked" = some (some (.ref f))) (l : K.lookup f = some ⟨oc, od, .func (PySem.W.fnOf "checked" "checked" (defArgs s5) (defBody s5) (defScope s5) .none kV doc pm an cdv ct), osl⟩) (c : PySem.W.codeIn K cdv "checked" = true) (k : PySem.W.keepIn K (.ref f) = true) : DefT info d5 ∧ ∃ f fd, DefW K mg d5 f fd :=
  ⟨t5, f, _, DefW.plain (PySem.W.mg_of X G a) l c k fun us hl => match us, hl with | [_], _ => rfl⟩
theorem w6 {K : PySem.W.Frag} {h : Heap} {mg : Str → Option Value} (X : K.In h) (G : h.Ns mainGlobals mg) {f : Addr} {oc : Value} {od an : Option Addr} {osl : Array (Option Value)} {kV doc pm cdv ct : Value}
    (a : PySem.W.nsIn K mainGlobals "looked" = some (some (.ref f))) (l : K.lookup f = some ⟨oc, od, .func (PySem.W.fnOf "looked" "looked" (defArgs s6) (defBody s6) (defScope s6) .none kV doc pm an cdv ct), osl⟩) (c : PySem.W.codeIn K cdv "looked" = true) (k : PySem.W.keepIn K (.ref f) = true) : DefT info d6 ∧ ∃ f fd, DefW K mg d6 f fd :=
  ⟨t6, f, _, DefW.plain (PySem.W.mg_of X G a) l c k fun us hl => match us, hl with | [_], _ => rfl⟩
theorem w7 {K : PySem.W.Frag} {h : Heap} {mg : Str → Option Value} (X : K.In h) (G : h.Ns mainGlobals mg) {f : Addr} {oc : Value} {od an : Option Addr} {osl : Array (Option Value)} {kV doc pm cdv ct : Value}
    (a : PySem.W.nsIn K mainGlobals "deed_of" = some (some (.ref f))) (l : K.lookup f = some ⟨oc, od, .func (PySem.W.fnOf "deed_of" "deed_of" (defArgs s7) (defBody s7) (defScope s7) .none kV doc pm an cdv ct), osl⟩) (c : PySem.W.codeIn K cdv "deed_of" = true) (k : PySem.W.keepIn K (.ref f) = true) : DefT info d7 ∧ ∃ f fd, DefW K mg d7 f fd :=
  ⟨t7, f, _, DefW.plain (PySem.W.mg_of X G a) l c k fun us hl => match us, hl with | [_], _ => rfl⟩
theorem w8 {K : PySem.W.Frag} {h : Heap} {mg : Str → Option Value} (X : K.In h) (G : h.Ns mainGlobals mg) {f : Addr} {oc : Value} {od an : Option Addr} {osl : Array (Option Value)} {kV doc pm cdv ct : Value}
    (a : PySem.W.nsIn K mainGlobals "done" = some (some (.ref f))) (l : K.lookup f = some ⟨oc, od, .func (PySem.W.fnOf "done" "done" (defArgs s8) (defBody s8) (defScope s8) .none kV doc pm an cdv ct), osl⟩) (c : PySem.W.codeIn K cdv "done" = true) (k : PySem.W.keepIn K (.ref f) = true) : DefT info d8 ∧ ∃ f fd, DefW K mg d8 f fd :=
  ⟨t8, f, _, DefW.plain (PySem.W.mg_of X G a) l c k fun us hl => match us, hl with | [_], _ => rfl⟩
theorem w9 {K : PySem.W.Frag} {h : Heap} {mg : Str → Option Value} (X : K.In h) (G : h.Ns mainGlobals mg) {f : Addr} {oc : Value} {od an : Option Addr} {osl : Array (Option Value)} {kV doc pm cdv ct : Value}
    (a : PySem.W.nsIn K mainGlobals "ways_of" = some (some (.ref f))) (l : K.lookup f = some ⟨oc, od, .func (PySem.W.fnOf "ways_of" "ways_of" (defArgs s9) (defBody s9) (defScope s9) .none kV doc pm an cdv ct), osl⟩) (c : PySem.W.codeIn K cdv "ways_of" = true) (k : PySem.W.keepIn K (.ref f) = true) : DefT info d9 ∧ ∃ f fd, DefW K mg d9 f fd :=
  ⟨t9, f, _, DefW.plain (PySem.W.mg_of X G a) l c k fun us hl => match us, hl with | [_], _ => rfl⟩
theorem w10 {K : PySem.W.Frag} {h : Heap} {mg : Str → Option Value} (X : K.In h) (G : h.Ns mainGlobals mg) {f : Addr} {oc : Value} {od an : Option Addr} {osl : Array (Option Value)} {kV doc pm cdv ct : Value}
    (a : PySem.W.nsIn K mainGlobals "part_at" = some (some (.ref f))) (l : K.lookup f = some ⟨oc, od, .func (PySem.W.fnOf "part_at" "part_at" (defArgs s10) (defBody s10) (defScope s10) .none kV doc pm an cdv ct), osl⟩) (c : PySem.W.codeIn K cdv "part_at" = true) (k : PySem.W.keepIn K (.ref f) = true) : DefT info d10 ∧ ∃ f fd, DefW K mg d10 f fd :=
  ⟨t10, f, _, DefW.plain (PySem.W.mg_of X G a) l c k fun us hl => match us, hl with | [_, _], _ => rfl⟩
theorem w11 {K : PySem.W.Frag} {h : Heap} {mg : Str → Option Value} (X : K.In h) (G : h.Ns mainGlobals mg) {f : Addr} {oc : Value} {od an : Option Addr} {osl : Array (Option Value)} {kV doc pm cdv ct : Value}
    (a : PySem.W.nsIn K mainGlobals "with_part" = some (some (.ref f))) (l : K.lookup f = some ⟨oc, od, .func (PySem.W.fnOf "with_part" "with_part" (defArgs s11) (defBody s11) (defScope s11) .none kV doc pm an cdv ct), osl⟩) (c : PySem.W.codeIn K cdv "with_part" = true) (k : PySem.W.keepIn K (.ref f) = true) : DefT info d11 ∧ ∃ f fd, DefW K mg d11 f fd :=
  ⟨t11, f, _, DefW.plain (PySem.W.mg_of X G a) l c k fun us hl => match us, hl with | [_, _, _], _ => rfl⟩
theorem w12 {K : PySem.W.Frag} {h : Heap} {mg : Str → Option Value} (X : K.In h) (G : h.Ns mainGlobals mg) {f : Addr} {oc : Value} {od an : Option Addr} {osl : Array (Option Value)} {kV doc pm cdv ct : Value}
    (a : PySem.W.nsIn K mainGlobals "look_way" = some (some (.ref f))) (l : K.lookup f = some ⟨oc, od, .func (PySem.W.fnOf "look_way" "look_way" (defArgs s12) (defBody s12) (defScope s12) .none kV doc pm an cdv ct), osl⟩) (c : PySem.W.codeIn K cdv "look_way" = true) (k : PySem.W.keepIn K (.ref f) = true) : DefT info d12 ∧ ∃ f fd, DefW K mg d12 f fd :=
  ⟨t12, f, _, DefW.plain (PySem.W.mg_of X G a) l c k fun us hl => match us, hl with | [_, _], _ => rfl⟩
theorem w13 {K : PySem.W.Frag} {h : Heap} {mg : Str → Option Value} (X : K.In h) (G : h.Ns mainGlobals mg) {f : Addr} {oc : Value} {od an : Option Addr} {osl : Array (Option Value)} {kV doc pm cdv ct : Value}
    (a : PySem.W.nsIn K mainGlobals "step_to" = some (some (.ref f))) (l : K.lookup f = some ⟨oc, od, .func (PySem.W.fnOf "step_to" "step_to" (defArgs s13) (defBody s13) (defScope s13) .none kV doc pm an cdv ct), osl⟩) (c : PySem.W.codeIn K cdv "step_to" = true) (k : PySem.W.keepIn K (.ref f) = true) : DefT info d13 ∧ ∃ f fd, DefW K mg d13 f fd :=
  ⟨t13, f, _, DefW.plain (PySem.W.mg_of X G a) l c k fun us hl => match us, hl with | [_, _], _ => rfl⟩
theorem w14 {K : PySem.W.Frag} {h : Heap} {mg : Str → Option Value} (X : K.In h) (G : h.Ns mainGlobals mg) {f : Addr} {oc : Value} {od an : Option Addr} {osl : Array (Option Value)} {kV doc pm cdv ct : Value}
    (a : PySem.W.nsIn K mainGlobals "led" = some (some (.ref f))) (l : K.lookup f = some ⟨oc, od, .func (PySem.W.fnOf "led" "led" (defArgs s14) (defBody s14) (defScope s14) .none kV doc pm an cdv ct), osl⟩) (c : PySem.W.codeIn K cdv "led" = true) (k : PySem.W.keepIn K (.ref f) = true) : DefT info d14 ∧ ∃ f fd, DefW K mg d14 f fd :=
  ⟨t14, f, _, DefW.plain (PySem.W.mg_of X G a) l c k fun us hl => match us, hl with | [_, _], _ => rfl⟩
theorem w15 {K : PySem.W.Frag} {h : Heap} {mg : Str → Option Value} (X : K.In h) (G : h.Ns mainGlobals mg) {f T : Addr} {oc oc2 : Value} {od od2 an : Option Addr} {osl osl2 : Array (Option Value)} {kV doc pm cdv ct : Value} {tk : Tok} {m : Nat}
    (a : PySem.W.nsIn K mainGlobals "played" = some (some (.ref f))) (l : K.lookup f = some ⟨oc, od, .func (PySem.W.fnOf "played" "played" (defArgs s15) (defBody s15) (defScope s15) (.ref T) kV doc pm an cdv ct), osl⟩) (c : PySem.W.codeIn K cdv "played" = true) (k : PySem.W.keepIn K (.ref f) = true) (lT : K.lookup T = some ⟨oc2, od2, .seq [.int 50 tk].toArray m, osl2⟩) : DefT info d15 ∧ ∃ f fd, DefW K mg d15 f fd :=
  ⟨t15, f, _, DefW.one (PySem.W.mg_of X G a) l c k lT rfl (v := .int 50) ⟨tk, rfl⟩ (.int _) (by decide) fun n j hj T kV doc pm an cdv ct us its h1 h2 => by
    rcases hj with ⟨rfl, rfl⟩ | ⟨e, rfl⟩
    · match us, its, h1, h2 with | [_, _], [_], _, _ => exact ⟨_, rfl, rfl⟩
    · match us, its, h1.trans (Nat.succ.inj (e.trans (rfl : _ = 1 + 1))), h2 with | [_], [_], _, _ => exact ⟨_, rfl, rfl⟩⟩
theorem w16 {K : PySem.W.Frag} {h : Heap} {mg : Str → Option Value} (X : K.In h) (G : h.Ns mainGlobals mg) {f : Addr} {oc : Value} {od an : Option Addr} {osl : Array (Option Value)} {kV doc pm cdv ct : Value}
    (a : PySem.W.nsIn K mainGlobals "number_term" = some (some (.ref f))) (l : K.lookup f = some ⟨oc, od, .func (PySem.W.fnOf "number_term" "number_term" (defArgs s16) (defBody s16) (defScope s16) .none kV doc pm an cdv ct), osl⟩) (c : PySem.W.codeIn K cdv "number_term" = true) (k : PySem.W.keepIn K (.ref f) = true) : DefT info d16 ∧ ∃ f fd, DefW K mg d16 f fd :=
  ⟨t16, f, _, DefW.plain (PySem.W.mg_of X G a) l c k fun us hl => match us, hl with | [_], _ => rfl⟩
theorem w17 {K : PySem.W.Frag} {h : Heap} {mg : Str → Option Value} (X : K.In h) (G : h.Ns mainGlobals mg) {f : Addr} {oc : Value} {od an : Option Addr} {osl : Array (Option Value)} {kV doc pm cdv ct : Value}
    (a : PySem.W.nsIn K mainGlobals "more" = some (some (.ref f))) (l : K.lookup f = some ⟨oc, od, .func (PySem.W.fnOf "more" "more" (defArgs s17) (defBody s17) (defScope s17) .none kV doc pm an cdv ct), osl⟩) (c : PySem.W.codeIn K cdv "more" = true) (k : PySem.W.keepIn K (.ref f) = true) : DefT info d17 ∧ ∃ f fd, DefW K mg d17 f fd :=
  ⟨t17, f, _, DefW.plain (PySem.W.mg_of X G a) l c k fun us hl => match us, hl with | [], _ => rfl⟩
theorem w18 {K : PySem.W.Frag} {h : Heap} {mg : Str → Option Value} (X : K.In h) (G : h.Ns mainGlobals mg) {f : Addr} {oc : Value} {od an : Option Addr} {osl : Array (Option Value)} {kV doc pm cdv ct : Value}
    (a : PySem.W.nsIn K mainGlobals "plus" = some (some (.ref f))) (l : K.lookup f = some ⟨oc, od, .func (PySem.W.fnOf "plus" "plus" (defArgs s18) (defBody s18) (defScope s18) .none kV doc pm an cdv ct), osl⟩) (c : PySem.W.codeIn K cdv "plus" = true) (k : PySem.W.keepIn K (.ref f) = true) : DefT info d18 ∧ ∃ f fd, DefW K mg d18 f fd :=
  ⟨t18, f, _, DefW.plain (PySem.W.mg_of X G a) l c k fun us hl => match us, hl with | [], _ => rfl⟩
theorem w19 {K : PySem.W.Frag} {h : Heap} {mg : Str → Option Value} (X : K.In h) (G : h.Ns mainGlobals mg) {f : Addr} {oc : Value} {od an : Option Addr} {osl : Array (Option Value)} {kV doc pm cdv ct : Value}
    (a : PySem.W.nsIn K mainGlobals "times" = some (some (.ref f))) (l : K.lookup f = some ⟨oc, od, .func (PySem.W.fnOf "times" "times" (defArgs s19) (defBody s19) (defScope s19) .none kV doc pm an cdv ct), osl⟩) (c : PySem.W.codeIn K cdv "times" = true) (k : PySem.W.keepIn K (.ref f) = true) : DefT info d19 ∧ ∃ f fd, DefW K mg d19 f fd :=
  ⟨t19, f, _, DefW.plain (PySem.W.mg_of X G a) l c k fun us hl => match us, hl with | [], _ => rfl⟩
theorem w20 {K : PySem.W.Frag} {h : Heap} {mg : Str → Option Value} (X : K.In h) (G : h.Ns mainGlobals mg) {f T : Addr} {oc oc2 : Value} {od od2 an : Option Addr} {osl osl2 : Array (Option Value)} {kV doc pm cdv ct : Value} {tk : Tok} {m : Nat}
    (a : PySem.W.nsIn K mainGlobals "counted" = some (some (.ref f))) (l : K.lookup f = some ⟨oc, od, .func (PySem.W.fnOf "counted" "counted" (defArgs s20) (defBody s20) (defScope s20) (.ref T) kV doc pm an cdv ct), osl⟩) (c : PySem.W.codeIn K cdv "counted" = true) (k : PySem.W.keepIn K (.ref f) = true) (lT : K.lookup T = some ⟨oc2, od2, .seq [.int 200 tk].toArray m, osl2⟩) : DefT info d20 ∧ ∃ f fd, DefW K mg d20 f fd :=
  ⟨t20, f, _, DefW.one (PySem.W.mg_of X G a) l c k lT rfl (v := .int 200) ⟨tk, rfl⟩ (.int _) (by decide) fun n j hj T kV doc pm an cdv ct us its h1 h2 => by
    rcases hj with ⟨rfl, rfl⟩ | ⟨e, rfl⟩
    · match us, its, h1, h2 with | [_, _], [_], _, _ => exact ⟨_, rfl, rfl⟩
    · match us, its, h1.trans (Nat.succ.inj (e.trans (rfl : _ = 1 + 1))), h2 with | [_], [_], _, _ => exact ⟨_, rfl, rfl⟩⟩
theorem w21 {K : PySem.W.Frag} {h : Heap} {mg : Str → Option Value} (X : K.In h) (G : h.Ns mainGlobals mg) {f : Addr} {oc : Value} {od an : Option Addr} {osl : Array (Option Value)} {kV doc pm cdv ct : Value}
    (a : PySem.W.nsIn K mainGlobals "_law_cell" = some (some (.ref f))) (l : K.lookup f = some ⟨oc, od, .func (PySem.W.fnOf "_law_cell" "_law_cell" (defArgs s21) (defBody s21) (defScope s21) .none kV doc pm an cdv ct), osl⟩) (c : PySem.W.codeIn K cdv "_law_cell" = true) (k : PySem.W.keepIn K (.ref f) = true) : DefT info d21 ∧ ∃ f fd, DefW K mg d21 f fd :=
  ⟨t21, f, _, DefW.plain (PySem.W.mg_of X G a) l c k fun us hl => match us, hl with | [_, _], _ => rfl⟩
theorem w22 {K : PySem.W.Frag} {h : Heap} {mg : Str → Option Value} (X : K.In h) (G : h.Ns mainGlobals mg) {f : Addr} {oc : Value} {od an : Option Addr} {osl : Array (Option Value)} {kV doc pm cdv ct : Value}
    (a : PySem.W.nsIn K mainGlobals "_law_row" = some (some (.ref f))) (l : K.lookup f = some ⟨oc, od, .func (PySem.W.fnOf "_law_row" "_law_row" (defArgs s22) (defBody s22) (defScope s22) .none kV doc pm an cdv ct), osl⟩) (c : PySem.W.codeIn K cdv "_law_row" = true) (k : PySem.W.keepIn K (.ref f) = true) : DefT info d22 ∧ ∃ f fd, DefW K mg d22 f fd :=
  ⟨t22, f, _, DefW.plain (PySem.W.mg_of X G a) l c k fun us hl => match us, hl with | [_, _], _ => rfl⟩
theorem w23 {K : PySem.W.Frag} {h : Heap} {mg : Str → Option Value} (X : K.In h) (G : h.Ns mainGlobals mg) {f : Addr} {oc : Value} {od an : Option Addr} {osl : Array (Option Value)} {kV doc pm cdv ct : Value}
    (a : PySem.W.nsIn K mainGlobals "_law_name" = some (some (.ref f))) (l : K.lookup f = some ⟨oc, od, .func (PySem.W.fnOf "_law_name" "_law_name" (defArgs s23) (defBody s23) (defScope s23) .none kV doc pm an cdv ct), osl⟩) (c : PySem.W.codeIn K cdv "_law_name" = true) (k : PySem.W.keepIn K (.ref f) = true) : DefT info d23 ∧ ∃ f fd, DefW K mg d23 f fd :=
  ⟨t23, f, _, DefW.plain (PySem.W.mg_of X G a) l c k fun us hl => match us, hl with | [_], _ => rfl⟩
theorem w24 {K : PySem.W.Frag} {h : Heap} {mg : Str → Option Value} (X : K.In h) (G : h.Ns mainGlobals mg) {f : Addr} {oc : Value} {od an : Option Addr} {osl : Array (Option Value)} {kV doc pm cdv ct : Value}
    (a : PySem.W.nsIn K mainGlobals "law" = some (some (.ref f))) (l : K.lookup f = some ⟨oc, od, .func (PySem.W.fnOf "law" "law" (defArgs s24) (defBody s24) (defScope s24) .none kV doc pm an cdv ct), osl⟩) (c : PySem.W.codeIn K cdv "law" = true) (k : PySem.W.keepIn K (.ref f) = true) : DefT info d24 ∧ ∃ f fd, DefW K mg d24 f fd :=
  ⟨t24, f, _, DefW.plain (PySem.W.mg_of X G a) l c k fun us hl => match us, hl with | [_], _ => rfl⟩
theorem all_mk {K : PySem.W.Frag} {h : Heap} {mg : Str → Option Value} (X : K.In h) (G : h.Ns mainGlobals mg) {f0 f1 f2 f3 f4 f5 f6 f7 f8 f9 f10 f11 f12 f13 f14 f15 f16 f17 f18 f19 f20 f21 f22 f23 f24 T15 T20 C0 C1 C2 C3 C4 G6 G8 G13 G14 G16 G18 G20 G22 G23 : Addr}
    {od0 an0 od1 an1 od2 an2 od3 an3 od4 an4 od5 an5 od6 an6 od7 an7 od8 an8 od9 an9 od10 an10 od11 an11 od12 an12 od13 an13 od14 an14 od15 an15 od16 an16 od17 an17 od18 an18 od19 an19 od20 an20 od21 an21 od22 an22 od23 an23 od24 an24 : Option Addr} {sl0 sl1 sl2 sl3 sl4 sl5 sl6 sl7 sl8 sl9 sl10 sl11 sl12 sl13 sl14 sl15 sl16 sl17 sl18 sl19 sl20 sl21 sl22 sl23 sl24 : Array (Option Value)} {oc0 kV0 dc0 pm0 cd0 ct0 oc1 kV1 dc1 pm1 cd1 ct1 oc2 kV2 dc2 pm2 cd2 ct2 oc3 kV3 dc3 pm3 cd3 ct3 oc4 kV4 dc4 pm4 cd4 ct4 oc5 kV5 dc5 pm5 cd5 ct5 oc6 kV6 dc6 pm6 cd6 ct6 oc7 kV7 dc7 pm7 cd7 ct7 oc8 kV8 dc8 pm8 cd8 ct8 oc9 kV9 dc9 pm9 cd9 ct9 oc10 kV10 dc10 pm10 cd10 ct10 oc11 kV11 dc11 pm11 cd11 ct11 oc12 kV12 dc12 pm12 cd12 ct12 oc13 kV13 dc13 pm13 cd13 ct13 oc14 kV14 dc14 pm14 cd14 ct14 oc15 kV15 dc15 pm15 cd15 ct15 oc16 kV16 dc16 pm16 cd16 ct16 oc17 kV17 dc17 pm17 cd17 ct17 oc18 kV18 dc18 pm18 cd18 ct18 oc19 kV19 dc19 pm19 cd19 ct19 oc20 kV20 dc20 pm20 cd20 ct20 oc21 kV21 dc21 pm21 cd21 ct21 oc22 kV22 dc22 pm22 cd22 ct22 oc23 kV23 dc23 pm23 cd23 ct23 oc24 kV24 dc24 pm24 cd24 ct24 : Value} {bm0 bm1 bm3 bm4 : List Value} {tk1 tk2 tk3 tk4 tk5 tk7 tk9 tk10 tk11 tk12 tk15 tk17 tk19 tk21 : Tok}
    {odd15 odd20 : Option Addr} {sld15 sld20 : Array (Option Value)} {ocd15 ocd20 : Value} {md15 md20 : Nat} {dtk15 dtk20 : Tok}
    {god6 god8 god13 god14 god16 god18 god20 god22 god23 : Option Addr} {gsl6 gsl8 gsl13 gsl14 gsl16 gsl18 gsl20 gsl22 gsl23 : Array (Option Value)} {gm6 gm8 gm13 gm14 gm16 gm18 gm20 gm22 gm23 : Nat}
    (a0 : PySem.W.nsIn K mainGlobals "is_within" = some (some (.ref f0)))
    (l0 : K.lookup f0 = some ⟨oc0, od0, .func (PySem.W.fnOf "is_within" "is_within" (defArgs s0) (defBody s0) (defScope s0) .none kV0 dc0 pm0 an0 cd0 ct0), sl0⟩)
    (c0 : PySem.W.codeIn K cd0 "is_within" = true)
    (k0 : PySem.W.keepIn K (.ref f0) = true)
    (a1 : PySem.W.nsIn K mainGlobals "is_name" = some (some (.ref f1)))
    (l1 : K.lookup f1 = some ⟨oc1, od1, .func (PySem.W.fnOf "is_name" "is_name" (defArgs s1) (defBody s1) (defScope s1) .none kV1 dc1 pm1 an1 cd1 ct1), sl1⟩)
    (c1 : PySem.W.codeIn K cd1 "is_name" = true)
    (k1 : PySem.W.keepIn K (.ref f1) = true)
    (a2 : PySem.W.nsIn K mainGlobals "is_leaf" = some (some (.ref f2)))
    (l2 : K.lookup f2 = some ⟨oc2, od2, .func (PySem.W.fnOf "is_leaf" "is_leaf" (defArgs s2) (defBody s2) (defScope s2) .none kV2 dc2 pm2 an2 cd2 ct2), sl2⟩)
    (c2 : PySem.W.codeIn K cd2 "is_leaf" = true)
    (k2 : PySem.W.keepIn K (.ref f2) = true)
    (a3 : PySem.W.nsIn K mainGlobals "left_of" = some (some (.ref f3)))
    (l3 : K.lookup f3 = some ⟨oc3, od3, .func (PySem.W.fnOf "left_of" "left_of" (defArgs s3) (defBody s3) (defScope s3) .none kV3 dc3 pm3 an3 cd3 ct3), sl3⟩)
    (c3 : PySem.W.codeIn K cd3 "left_of" = true)
    (k3 : PySem.W.keepIn K (.ref f3) = true)
    (a4 : PySem.W.nsIn K mainGlobals "is_term" = some (some (.ref f4)))
    (l4 : K.lookup f4 = some ⟨oc4, od4, .func (PySem.W.fnOf "is_term" "is_term" (defArgs s4) (defBody s4) (defScope s4) .none kV4 dc4 pm4 an4 cd4 ct4), sl4⟩)
    (c4 : PySem.W.codeIn K cd4 "is_term" = true)
    (k4 : PySem.W.keepIn K (.ref f4) = true)
    (a5 : PySem.W.nsIn K mainGlobals "checked" = some (some (.ref f5)))
    (l5 : K.lookup f5 = some ⟨oc5, od5, .func (PySem.W.fnOf "checked" "checked" (defArgs s5) (defBody s5) (defScope s5) .none kV5 dc5 pm5 an5 cd5 ct5), sl5⟩)
    (c5 : PySem.W.codeIn K cd5 "checked" = true)
    (k5 : PySem.W.keepIn K (.ref f5) = true)
    (a6 : PySem.W.nsIn K mainGlobals "looked" = some (some (.ref f6)))
    (l6 : K.lookup f6 = some ⟨oc6, od6, .func (PySem.W.fnOf "looked" "looked" (defArgs s6) (defBody s6) (defScope s6) .none kV6 dc6 pm6 an6 cd6 ct6), sl6⟩)
    (c6 : PySem.W.codeIn K cd6 "looked" = true)
    (k6 : PySem.W.keepIn K (.ref f6) = true)
    (a7 : PySem.W.nsIn K mainGlobals "deed_of" = some (some (.ref f7)))
    (l7 : K.lookup f7 = some ⟨oc7, od7, .func (PySem.W.fnOf "deed_of" "deed_of" (defArgs s7) (defBody s7) (defScope s7) .none kV7 dc7 pm7 an7 cd7 ct7), sl7⟩)
    (c7 : PySem.W.codeIn K cd7 "deed_of" = true)
    (k7 : PySem.W.keepIn K (.ref f7) = true)
    (a8 : PySem.W.nsIn K mainGlobals "done" = some (some (.ref f8)))
    (l8 : K.lookup f8 = some ⟨oc8, od8, .func (PySem.W.fnOf "done" "done" (defArgs s8) (defBody s8) (defScope s8) .none kV8 dc8 pm8 an8 cd8 ct8), sl8⟩)
    (c8 : PySem.W.codeIn K cd8 "done" = true)
    (k8 : PySem.W.keepIn K (.ref f8) = true)
    (a9 : PySem.W.nsIn K mainGlobals "ways_of" = some (some (.ref f9)))
    (l9 : K.lookup f9 = some ⟨oc9, od9, .func (PySem.W.fnOf "ways_of" "ways_of" (defArgs s9) (defBody s9) (defScope s9) .none kV9 dc9 pm9 an9 cd9 ct9), sl9⟩)
    (c9 : PySem.W.codeIn K cd9 "ways_of" = true)
    (k9 : PySem.W.keepIn K (.ref f9) = true)
    (a10 : PySem.W.nsIn K mainGlobals "part_at" = some (some (.ref f10)))
    (l10 : K.lookup f10 = some ⟨oc10, od10, .func (PySem.W.fnOf "part_at" "part_at" (defArgs s10) (defBody s10) (defScope s10) .none kV10 dc10 pm10 an10 cd10 ct10), sl10⟩)
    (c10 : PySem.W.codeIn K cd10 "part_at" = true)
    (k10 : PySem.W.keepIn K (.ref f10) = true)
    (a11 : PySem.W.nsIn K mainGlobals "with_part" = some (some (.ref f11)))
    (l11 : K.lookup f11 = some ⟨oc11, od11, .func (PySem.W.fnOf "with_part" "with_part" (defArgs s11) (defBody s11) (defScope s11) .none kV11 dc11 pm11 an11 cd11 ct11), sl11⟩)
    (c11 : PySem.W.codeIn K cd11 "with_part" = true)
    (k11 : PySem.W.keepIn K (.ref f11) = true)
    (a12 : PySem.W.nsIn K mainGlobals "look_way" = some (some (.ref f12)))
    (l12 : K.lookup f12 = some ⟨oc12, od12, .func (PySem.W.fnOf "look_way" "look_way" (defArgs s12) (defBody s12) (defScope s12) .none kV12 dc12 pm12 an12 cd12 ct12), sl12⟩)
    (c12 : PySem.W.codeIn K cd12 "look_way" = true)
    (k12 : PySem.W.keepIn K (.ref f12) = true)
    (a13 : PySem.W.nsIn K mainGlobals "step_to" = some (some (.ref f13)))
    (l13 : K.lookup f13 = some ⟨oc13, od13, .func (PySem.W.fnOf "step_to" "step_to" (defArgs s13) (defBody s13) (defScope s13) .none kV13 dc13 pm13 an13 cd13 ct13), sl13⟩)
    (c13 : PySem.W.codeIn K cd13 "step_to" = true)
    (k13 : PySem.W.keepIn K (.ref f13) = true)
    (a14 : PySem.W.nsIn K mainGlobals "led" = some (some (.ref f14)))
    (l14 : K.lookup f14 = some ⟨oc14, od14, .func (PySem.W.fnOf "led" "led" (defArgs s14) (defBody s14) (defScope s14) .none kV14 dc14 pm14 an14 cd14 ct14), sl14⟩)
    (c14 : PySem.W.codeIn K cd14 "led" = true)
    (k14 : PySem.W.keepIn K (.ref f14) = true)
    (a15 : PySem.W.nsIn K mainGlobals "played" = some (some (.ref f15)))
    (l15 : K.lookup f15 = some ⟨oc15, od15, .func (PySem.W.fnOf "played" "played" (defArgs s15) (defBody s15) (defScope s15) (.ref T15) kV15 dc15 pm15 an15 cd15 ct15), sl15⟩)
    (ld15 : K.lookup T15 = some ⟨ocd15, odd15, .seq [.int 50 dtk15].toArray md15, sld15⟩)
    (c15 : PySem.W.codeIn K cd15 "played" = true)
    (k15 : PySem.W.keepIn K (.ref f15) = true)
    (a16 : PySem.W.nsIn K mainGlobals "number_term" = some (some (.ref f16)))
    (l16 : K.lookup f16 = some ⟨oc16, od16, .func (PySem.W.fnOf "number_term" "number_term" (defArgs s16) (defBody s16) (defScope s16) .none kV16 dc16 pm16 an16 cd16 ct16), sl16⟩)
    (c16 : PySem.W.codeIn K cd16 "number_term" = true)
    (k16 : PySem.W.keepIn K (.ref f16) = true)
    (a17 : PySem.W.nsIn K mainGlobals "more" = some (some (.ref f17)))
    (l17 : K.lookup f17 = some ⟨oc17, od17, .func (PySem.W.fnOf "more" "more" (defArgs s17) (defBody s17) (defScope s17) .none kV17 dc17 pm17 an17 cd17 ct17), sl17⟩)
    (c17 : PySem.W.codeIn K cd17 "more" = true)
    (k17 : PySem.W.keepIn K (.ref f17) = true)
    (a18 : PySem.W.nsIn K mainGlobals "plus" = some (some (.ref f18)))
    (l18 : K.lookup f18 = some ⟨oc18, od18, .func (PySem.W.fnOf "plus" "plus" (defArgs s18) (defBody s18) (defScope s18) .none kV18 dc18 pm18 an18 cd18 ct18), sl18⟩)
    (c18 : PySem.W.codeIn K cd18 "plus" = true)
    (k18 : PySem.W.keepIn K (.ref f18) = true)
    (a19 : PySem.W.nsIn K mainGlobals "times" = some (some (.ref f19)))
    (l19 : K.lookup f19 = some ⟨oc19, od19, .func (PySem.W.fnOf "times" "times" (defArgs s19) (defBody s19) (defScope s19) .none kV19 dc19 pm19 an19 cd19 ct19), sl19⟩)
    (c19 : PySem.W.codeIn K cd19 "times" = true)
    (k19 : PySem.W.keepIn K (.ref f19) = true)
    (a20 : PySem.W.nsIn K mainGlobals "counted" = some (some (.ref f20)))
    (l20 : K.lookup f20 = some ⟨oc20, od20, .func (PySem.W.fnOf "counted" "counted" (defArgs s20) (defBody s20) (defScope s20) (.ref T20) kV20 dc20 pm20 an20 cd20 ct20), sl20⟩)
    (ld20 : K.lookup T20 = some ⟨ocd20, odd20, .seq [.int 200 dtk20].toArray md20, sld20⟩)
    (c20 : PySem.W.codeIn K cd20 "counted" = true)
    (k20 : PySem.W.keepIn K (.ref f20) = true)
    (a21 : PySem.W.nsIn K mainGlobals "_law_cell" = some (some (.ref f21)))
    (l21 : K.lookup f21 = some ⟨oc21, od21, .func (PySem.W.fnOf "_law_cell" "_law_cell" (defArgs s21) (defBody s21) (defScope s21) .none kV21 dc21 pm21 an21 cd21 ct21), sl21⟩)
    (c21 : PySem.W.codeIn K cd21 "_law_cell" = true)
    (k21 : PySem.W.keepIn K (.ref f21) = true)
    (a22 : PySem.W.nsIn K mainGlobals "_law_row" = some (some (.ref f22)))
    (l22 : K.lookup f22 = some ⟨oc22, od22, .func (PySem.W.fnOf "_law_row" "_law_row" (defArgs s22) (defBody s22) (defScope s22) .none kV22 dc22 pm22 an22 cd22 ct22), sl22⟩)
    (c22 : PySem.W.codeIn K cd22 "_law_row" = true)
    (k22 : PySem.W.keepIn K (.ref f22) = true)
    (a23 : PySem.W.nsIn K mainGlobals "_law_name" = some (some (.ref f23)))
    (l23 : K.lookup f23 = some ⟨oc23, od23, .func (PySem.W.fnOf "_law_name" "_law_name" (defArgs s23) (defBody s23) (defScope s23) .none kV23 dc23 pm23 an23 cd23 ct23), sl23⟩)
    (c23 : PySem.W.codeIn K cd23 "_law_name" = true)
    (k23 : PySem.W.keepIn K (.ref f23) = true)
    (a24 : PySem.W.nsIn K mainGlobals "law" = some (some (.ref f24)))
    (l24 : K.lookup f24 = some ⟨oc24, od24, .func (PySem.W.fnOf "law" "law" (defArgs s24) (defBody s24) (defScope s24) .none kV24 dc24 pm24 an24 cd24 ct24), sl24⟩)
    (c24 : PySem.W.codeIn K cd24 "law" = true)
    (k24 : PySem.W.keepIn K (.ref f24) = true)
    (z_len : PySem.W.nsIn K mainGlobals "len" = some none)
    (z_list : PySem.W.nsIn K mainGlobals "list" = some none)
    (z_tuple : PySem.W.nsIn K mainGlobals "tuple" = some none)
    (z_sorted : PySem.W.nsIn K mainGlobals "sorted" = some none)
    (z_str : PySem.W.nsIn K mainGlobals "str" = some none)
    (z_isinstance : PySem.W.nsIn K mainGlobals "isinstance" = some none)
    (z_int : PySem.W.nsIn K mainGlobals "int" = some none)
    (z_bool : PySem.W.nsIn K mainGlobals "bool" = some none)
    (z_set : PySem.W.nsIn K mainGlobals "set" = some none)
    (z_range : PySem.W.nsIn K mainGlobals "range" = some none)
    (z_enumerate : PySem.W.nsIn K mainGlobals "enumerate" = some none)
    (z_zip : PySem.W.nsIn K mainGlobals "zip" = some none)
    (z_reversed : PySem.W.nsIn K mainGlobals "reversed" = some none)
    (xa0 : PySem.W.nsIn K mainGlobals "CopyError" = some (some (.ref C0)))
    (xk0 : PySem.W.keepIn K (.ref C0) = true)
    (xb0 : PySem.W.subIn K (.ref C0) (.type "BaseException") = some true)
    (xt0 : PySem.W.typeIn K (.ref C0) = some (.type "type"))
    (xe0 : PySem.W.excIn K C0 bm0 "ValueError.__new__" = true)
    (xa1 : PySem.W.nsIn K mainGlobals "BadTerm" = some (some (.ref C1)))
    (xk1 : PySem.W.keepIn K (.ref C1) = true)
    (xb1 : PySem.W.subIn K (.ref C1) (.type "BaseException") = some true)
    (xt1 : PySem.W.typeIn K (.ref C1) = some (.type "type"))
    (xe1 : PySem.W.excIn K C1 bm1 "ValueError.__new__" = true)
    (xa2 : PySem.W.nsIn K mainGlobals "BadWay" = some (some (.ref C2)))
    (xk2 : PySem.W.keepIn K (.ref C2) = true)
    (xb2 : PySem.W.subIn K (.ref C2) (.type "BaseException") = some true)
    (xt2 : PySem.W.typeIn K (.ref C2) = some (.type "type"))
    (xa3 : PySem.W.nsIn K mainGlobals "BadCount" = some (some (.ref C3)))
    (xk3 : PySem.W.keepIn K (.ref C3) = true)
    (xb3 : PySem.W.subIn K (.ref C3) (.type "BaseException") = some true)
    (xt3 : PySem.W.typeIn K (.ref C3) = some (.type "type"))
    (xe3 : PySem.W.excIn K C3 bm3 "ValueError.__new__" = true)
    (xa4 : PySem.W.nsIn K mainGlobals "TooBig" = some (some (.ref C4)))
    (xk4 : PySem.W.keepIn K (.ref C4) = true)
    (xb4 : PySem.W.subIn K (.ref C4) (.type "BaseException") = some true)
    (xt4 : PySem.W.typeIn K (.ref C4) = some (.type "type"))
    (xe4 : PySem.W.excIn K C4 bm4 "ValueError.__new__" = true)
    (gl0 : PySem.W.nsIn K mainGlobals "MOST_LEAVES" = some (some (.int 200 tk1)))
    (gl1 : PySem.W.nsIn K mainGlobals "SMALL" = some (some (.str "abcdefghijklmnopqrstuvwxyz" tk2)))
    (gl2 : PySem.W.nsIn K mainGlobals "MOST_PLAYED" = some (some (.int 400 tk3)))
    (gl3 : PySem.W.nsIn K mainGlobals "SAME" = some (some (.ref G8)))
    (gt8 : K.lookup G8 = some ⟨.type "tuple", god8, .seq #[(.ref G6), (.str "K" tk7)] gm8, gsl8⟩)
    (gt6 : K.lookup G6 = some ⟨.type "tuple", god6, .seq #[(.str "S" tk4), (.str "K" tk5)] gm6, gsl6⟩)
    (gl4 : PySem.W.nsIn K mainGlobals "MOST_NUMBER" = some (some (.int 12 tk9)))
    (gl5 : PySem.W.nsIn K mainGlobals "BEHIND" = some (some (.ref G16)))
    (gt16 : K.lookup G16 = some ⟨.type "tuple", god16, .seq #[(.ref G14), (.str "K" tk15)] gm16, gsl16⟩)
    (gt14 : K.lookup G14 = some ⟨.type "tuple", god14, .seq #[(.str "S" tk10), (.ref G13)] gm14, gsl14⟩)
    (gt13 : K.lookup G13 = some ⟨.type "tuple", god13, .seq #[(.str "K" tk11), (.str "S" tk12)] gm13, gsl13⟩)
    (gl6 : PySem.W.nsIn K mainGlobals "MORE" = some (some (.ref G18)))
    (gt18 : K.lookup G18 = some ⟨.type "tuple", god18, .seq #[(.str "S" tk17), (.ref G16)] gm18, gsl18⟩)
    (gl7 : PySem.W.nsIn K mainGlobals "PLUS" = some (some (.ref G23)))
    (gt23 : K.lookup G23 = some ⟨.type "tuple", god23, .seq #[(.ref G20), (.ref G22)] gm23, gsl23⟩)
    (gt22 : K.lookup G22 = some ⟨.type "tuple", god22, .seq #[(.str "K" tk21), (.ref G18)] gm22, gsl22⟩)
    (gt20 : K.lookup G20 = some ⟨.type "tuple", god20, .seq #[(.str "S" tk19), (.ref G8)] gm20, gsl20⟩)
    (xf0 : ∃ ni, ExcBaseFacts "ValueError" "ValueError.__new__" ni bm0)
    (xf1 : ∃ ni, ExcBaseFacts "ValueError" "ValueError.__new__" ni bm1)
    (xf3 : ∃ ni, ExcBaseFacts "ValueError" "ValueError.__new__" ni bm3)
    (xf4 : ∃ ni, ExcBaseFacts "ValueError" "ValueError.__new__" ni bm4)
    : ∃ ct f fd, World' K mg info defs ct ∧ DefW K mg d24 f fd ∧ ∀ (s : Shared) (u : Value), BindsTo s fd ⟨[u], []⟩ [("_law_script", u)] := by
  have hd : AllD (fun d => DefT info d ∧ ∃ f fd, DefW K mg d f fd) defs := ⟨w0 X G a0 l0 c0 k0, w1 X G a1 l1 c1 k1, w2 X G a2 l2 c2 k2, w3 X G a3 l3 c3 k3, w4 X G a4 l4 c4 k4, w5 X G a5 l5 c5 k5, w6 X G a6 l6 c6 k6, w7 X G a7 l7 c7 k7, w8 X G a8 l8 c8 k8, w9 X G a9 l9 c9 k9, w10 X G a10 l10 c10 k10, w11 X G a11 l11 c11 k11, w12 X G a12 l12 c12 k12, w13 X G a13 l13 c13 k13, w14 X G a14 l14 c14 k14, w15 X G a15 l15 c15 k15 ld15, w16 X G a16 l16 c16 k16, w17 X G a17 l17 c17 k17, w18 X G a18 l18 c18 k18, w19 X G a19 l19 c19 k19, w20 X G a20 l20 c20 k20 ld20, w21 X G a21 l21 c21 k21, w22 X G a22 l22 c22 k22, w23 X G a23 l23 c23 k23, w24 X G a24 l24 c24 k24, trivial⟩
  let ct : Nat → Option (Addr × Str) := fun c => match c with
    | 0 => some (C0, "")
    | 1 => some (C1, "")
    | 2 => some (C2, "way")
    | 3 => some (C3, "")
    | 4 => some (C4, "")
    | _ => none
  refine ⟨ct, f24, _, ⟨rfl, fun i d e => hd.at e, fun i x d e => ?_, blt_all (PySem.W.mg_none_of X G z_len) (PySem.W.mg_none_of X G z_list) (PySem.W.mg_none_of X G z_tuple) (PySem.W.mg_none_of X G z_sorted) (PySem.W.mg_none_of X G z_str) (PySem.W.mg_none_of X G z_isinstance) (PySem.W.mg_none_of X G z_int) (PySem.W.mg_none_of X G z_bool) (PySem.W.mg_none_of X G z_set) (PySem.W.mg_none_of X G z_range) (PySem.W.mg_none_of X G z_enumerate) (PySem.W.mg_none_of X G z_zip) (PySem.W.mg_none_of X G z_reversed), fun c xi e => ?_⟩, DefW.plain (PySem.W.mg_of X G a24) l24 c24 k24 fun us hl => match us, hl with | [_], _ => rfl, fun s u => .of_eq rfl⟩
  · match i, e with
    | 0, e => cases e; exact ⟨_, (.int 200), PySem.W.mg_of X G gl0, ⟨_, rfl⟩, (.int _)⟩
    | 1, e => cases e; exact ⟨_, (.str "abcdefghijklmnopqrstuvwxyz"), PySem.W.mg_of X G gl1, ⟨_, rfl⟩, (.str _)⟩
    | 2, e => cases e; exact ⟨_, (.int 400), PySem.W.mg_of X G gl2, ⟨_, rfl⟩, (.int _)⟩
    | 3, e => cases e; exact ⟨_, (.ref G8), PySem.W.mg_of X G gl3, rfl, (Dp.tup (xs := [(.ref G6), (.str "K")]) (.inr ⟨_, _, _, gt8, rfl, rfl, (by show 2 ≤ sizeLine; decide), (.cons rfl (.cons ⟨_, rfl⟩ .nil))⟩) (.cons (Dp.tup (xs := [(.str "S"), (.str "K")]) (.inr ⟨_, _, _, gt6, rfl, rfl, (by show 2 ≤ sizeLine; decide), (.cons ⟨_, rfl⟩ (.cons ⟨_, rfl⟩ .nil))⟩) (.cons (.str _) (.cons (.str _) .nil))) (.cons (.str _) .nil)))⟩
    | 4, e => cases e; exact ⟨_, (.int 12), PySem.W.mg_of X G gl4, ⟨_, rfl⟩, (.int _)⟩
    | 5, e => cases e; exact ⟨_, (.ref G16), PySem.W.mg_of X G gl5, rfl, (Dp.tup (xs := [(.ref G14), (.str "K")]) (.inr ⟨_, _, _, gt16, rfl, rfl, (by show 2 ≤ sizeLine; decide), (.cons rfl (.cons ⟨_, rfl⟩ .nil))⟩) (.cons (Dp.tup (xs := [(.str "S"), (.ref G13)]) (.inr ⟨_, _, _, gt14, rfl, rfl, (by show 2 ≤ sizeLine; decide), (.cons ⟨_, rfl⟩ (.cons rfl .nil))⟩) (.cons (.str _) (.cons (Dp.tup (xs := [(.str "K"), (.str "S")]) (.inr ⟨_, _, _, gt13, rfl, rfl, (by show 2 ≤ sizeLine; decide), (.cons ⟨_, rfl⟩ (.cons ⟨_, rfl⟩ .nil))⟩) (.cons (.str _) (.cons (.str _) .nil))) .nil))) (.cons (.str _) .nil)))⟩
    | 6, e => cases e; exact ⟨_, (.ref G18), PySem.W.mg_of X G gl6, rfl, (Dp.tup (xs := [(.str "S"), (.ref G16)]) (.inr ⟨_, _, _, gt18, rfl, rfl, (by show 2 ≤ sizeLine; decide), (.cons ⟨_, rfl⟩ (.cons rfl .nil))⟩) (.cons (.str _) (.cons (Dp.tup (xs := [(.ref G14), (.str "K")]) (.inr ⟨_, _, _, gt16, rfl, rfl, (by show 2 ≤ sizeLine; decide), (.cons rfl (.cons ⟨_, rfl⟩ .nil))⟩) (.cons (Dp.tup (xs := [(.str "S"), (.ref G13)]) (.inr ⟨_, _, _, gt14, rfl, rfl, (by show 2 ≤ sizeLine; decide), (.cons ⟨_, rfl⟩ (.cons rfl .nil))⟩) (.cons (.str _) (.cons (Dp.tup (xs := [(.str "K"), (.str "S")]) (.inr ⟨_, _, _, gt13, rfl, rfl, (by show 2 ≤ sizeLine; decide), (.cons ⟨_, rfl⟩ (.cons ⟨_, rfl⟩ .nil))⟩) (.cons (.str _) (.cons (.str _) .nil))) .nil))) (.cons (.str _) .nil))) .nil)))⟩
    | 7, e => cases e; exact ⟨_, (.ref G23), PySem.W.mg_of X G gl7, rfl, (Dp.tup (xs := [(.ref G20), (.ref G22)]) (.inr ⟨_, _, _, gt23, rfl, rfl, (by show 2 ≤ sizeLine; decide), (.cons rfl (.cons rfl .nil))⟩) (.cons (Dp.tup (xs := [(.str "S"), (.ref G8)]) (.inr ⟨_, _, _, gt20, rfl, rfl, (by show 2 ≤ sizeLine; decide), (.cons ⟨_, rfl⟩ (.cons rfl .nil))⟩) (.cons (.str _) (.cons (Dp.tup (xs := [(.ref G6), (.str "K")]) (.inr ⟨_, _, _, gt8, rfl, rfl, (by show 2 ≤ sizeLine; decide), (.cons rfl (.cons ⟨_, rfl⟩ .nil))⟩) (.cons (Dp.tup (xs := [(.str "S"), (.str "K")]) (.inr ⟨_, _, _, gt6, rfl, rfl, (by show 2 ≤ sizeLine; decide), (.cons ⟨_, rfl⟩ (.cons ⟨_, rfl⟩ .nil))⟩) (.cons (.str _) (.cons (.str _) .nil))) (.cons (.str _) .nil))) .nil))) (.cons (Dp.tup (xs := [(.str "K"), (.ref G18)]) (.inr ⟨_, _, _, gt22, rfl, rfl, (by show 2 ≤ sizeLine; decide), (.cons ⟨_, rfl⟩ (.cons rfl .nil))⟩) (.cons (.str _) (.cons (Dp.tup (xs := [(.str "S"), (.ref G16)]) (.inr ⟨_, _, _, gt18, rfl, rfl, (by show 2 ≤ sizeLine; decide), (.cons ⟨_, rfl⟩ (.cons rfl .nil))⟩) (.cons (.str _) (.cons (Dp.tup (xs := [(.ref G14), (.str "K")]) (.inr ⟨_, _, _, gt16, rfl, rfl, (by show 2 ≤ sizeLine; decide), (.cons rfl (.cons ⟨_, rfl⟩ .nil))⟩) (.cons (Dp.tup (xs := [(.str "S"), (.ref G13)]) (.inr ⟨_, _, _, gt14, rfl, rfl, (by show 2 ≤ sizeLine; decide), (.cons ⟨_, rfl⟩ (.cons rfl .nil))⟩) (.cons (.str _) (.cons (Dp.tup (xs := [(.str "K"), (.str "S")]) (.inr ⟨_, _, _, gt13, rfl, rfl, (by show 2 ≤ sizeLine; decide), (.cons ⟨_, rfl⟩ (.cons ⟨_, rfl⟩ .nil))⟩) (.cons (.str _) (.cons (.str _) .nil))) .nil))) (.cons (.str _) .nil))) .nil))) .nil))) .nil)))⟩
    | i + 8, e => exact absurd e (by simp [info, globs])
  · match c, e with
    | 0, e => cases e; obtain ⟨ni, hf⟩ := xf0; exact ⟨C0, _, rfl, PySem.W.mg_of X G xa0, xk0, xb0, xt0, fun _ => ⟨_, _, _, _, hf, xe0⟩⟩
    | 1, e => cases e; obtain ⟨ni, hf⟩ := xf1; exact ⟨C1, _, rfl, PySem.W.mg_of X G xa1, xk1, xb1, xt1, fun _ => ⟨_, _, _, _, hf, xe1⟩⟩
    | 2, e => cases e; exact ⟨C2, _, rfl, PySem.W.mg_of X G xa2, xk2, xb2, xt2, fun z => by cases z⟩
    | 3, e => cases e; obtain ⟨ni, hf⟩ := xf3; exact ⟨C3, _, rfl, PySem.W.mg_of X G xa3, xk3, xb3, xt3, fun _ => ⟨_, _, _, _, hf, xe3⟩⟩
    | 4, e => cases e; obtain ⟨ni, hf⟩ := xf4; exact ⟨C4, _, rfl, PySem.W.mg_of X G xa4, xk4, xb4, xt4, fun _ => ⟨_, _, _, _, hf, xe4⟩⟩
    | c + 5, e => exact absurd e (by simp [info, exns])
end K26
open PySem PySem.W PyProof.Rows
set_option maxHeartbeats 0 in
theorem PySem.Challenge.cw_copyhands_k26_whole_sums_and_products_holds : PySem.Challenge.rw_copyhands_k26_whole_sums_and_products.Holds := by
  w_on; o_law; k_head; (case hw => w_witness2)
  k_fill
  refine CH.law_end (l := PySem.Challenge.rw_copyhands_k26_whole_sums_and_products) (n := 63) (kk := 200) (li := 24) (x := "_law_script") (I := K26.info) (ds := K26.defs) rfl (by decide) rfl ⟨rfl, by decide, by decide⟩ (fun w h Y => PySem.W.kIn_of Y) (dd := K26.d24) rfl rfl rfl ?F K26.law_true
  case F =>
    intro w mg h KX G
    refine' K26.all_mk KX G ?a0 ?l0 ?c0 ?k0 ?a1 ?l1 ?c1 ?k1 ?a2 ?l2 ?c2 ?k2 ?a3 ?l3 ?c3 ?k3 ?a4 ?l4 ?c4 ?k4 ?a5 ?l5 ?c5 ?k5 ?a6 ?l6 ?c6 ?k6 ?a7 ?l7 ?c7 ?k7 ?a8 ?l8 ?c8 ?k8 ?a9 ?l9 ?c9 ?k9 ?a10 ?l10 ?c10 ?k10 ?a11 ?l11 ?c11 ?k11 ?a12 ?l12 ?c12 ?k12 ?a13 ?l13 ?c13 ?k13 ?a14 ?l14 ?c14 ?k14 ?a15 ?l15 ?ld15 ?c15 ?k15 ?a16 ?l16 ?c16 ?k16 ?a17 ?l17 ?c17 ?k17 ?a18 ?l18 ?c18 ?k18 ?a19 ?l19 ?c19 ?k19 ?a20 ?l20 ?ld20 ?c20 ?k20 ?a21 ?l21 ?c21 ?k21 ?a22 ?l22 ?c22 ?k22 ?a23 ?l23 ?c23 ?k23 ?a24 ?l24 ?c24 ?k24 ?z_len ?z_list ?z_tuple ?z_sorted ?z_str ?z_isinstance ?z_int ?z_bool ?z_set ?z_range ?z_enumerate ?z_zip ?z_reversed ?xa0 ?xk0 ?xb0 ?xt0 ?xe0 ?xa1 ?xk1 ?xb1 ?xt1 ?xe1 ?xa2 ?xk2 ?xb2 ?xt2 ?xa3 ?xk3 ?xb3 ?xt3 ?xe3 ?xa4 ?xk4 ?xb4 ?xt4 ?xe4 ?gl0 ?gl1 ?gl2 ?gl3 ?gt8 ?gt6 ?gl4 ?gl5 ?gt16 ?gt14 ?gt13 ?gl6 ?gt18 ?gl7 ?gt23 ?gt22 ?gt20 ⟨_, PySem.F.excBase_ValueError⟩ ⟨_, PySem.F.excBase_ValueError⟩ ⟨_, PySem.F.excBase_ValueError⟩ ⟨_, PySem.F.excBase_ValueError⟩
    (case a0 => k_is)
    (case l0 => k_is)
    (case c0 => k_is)
    (case k0 => k_is)
    (case a1 => k_is)
    (case l1 => k_is)
    (case c1 => k_is)
    (case k1 => k_is)
    (case a2 => k_is)
    (case l2 => k_is)
    (case c2 => k_is)
    (case k2 => k_is)
    (case a3 => k_is)
    (case l3 => k_is)
    (case c3 => k_is)
    (case k3 => k_is)
    (case a4 => k_is)
    (case l4 => k_is)
    (case c4 => k_is)
    (case k4 => k_is)
    (case a5 => k_is)
    (case l5 => k_is)
    (case c5 => k_is)
    (case k5 => k_is)
    (case a6 => k_is)
    (case l6 => k_is)
    (case c6 => k_is)
    (case k6 => k_is)
    (case a7 => k_is)
    (case l7 => k_is)
    (case c7 => k_is)
    (case k7 => k_is)
    (case a8 => k_is)
    (case l8 => k_is)
    (case c8 => k_is)
    (case k8 => k_is)
    (case a9 => k_is)
    (case l9 => k_is)
    (case c9 => k_is)
    (case k9 => k_is)
    (case a10 => k_is)
    (case l10 => k_is)
    (case c10 => k_is)
    (case k10 => k_is)
    (case a11 => k_is)
    (case l11 => k_is)
    (case c11 => k_is)
    (case k11 => k_is)
    (case a12 => k_is)
    (case l12 => k_is)
    (case c12 => k_is)
    (case k12 => k_is)
    (case a13 => k_is)
    (case l13 => k_is)
    (case c13 => k_is)
    (case k13 => k_is)
    (case a14 => k_is)
    (case l14 => k_is)
    (case c14 => k_is)
    (case k14 => k_is)
    (case a15 => k_is)
    (case l15 => k_is)
    (case ld15 => k_is)
    (case c15 => k_is)
    (case k15 => k_is)
    (case a16 => k_is)
    (case l16 => k_is)
    (case c16 => k_is)
    (case k16 => k_is)
    (case a17 => k_is)
    (case l17 => k_is)
    (case c17 => k_is)
    (case k17 => k_is)
    (case a18 => k_is)
    (case l18 => k_is)
    (case c18 => k_is)
    (case k18 => k_is)
    (case a19 => k_is)
    (case l19 => k_is)
    (case c19 => k_is)
    (case k19 => k_is)
    (case a20 => k_is)
    (case l20 => k_is)
    (case ld20 => k_is)
    (case c20 => k_is)
    (case k20 => k_is)
    (case a21 => k_is)
    (case l21 => k_is)
    (case c21 => k_is)
    (case k21 => k_is)
    (case a22 => k_is)
    (case l22 => k_is)
    (case c22 => k_is)
    (case k22 => k_is)
    (case a23 => k_is)
    (case l23 => k_is)
    (case c23 => k_is)
    (case k23 => k_is)
    (case a24 => k_is)
    (case l24 => k_is)
    (case c24 => k_is)
    (case k24 => k_is)
    (case z_len => k_is)
    (case z_list => k_is)
    (case z_tuple => k_is)
    (case z_sorted => k_is)
    (case z_str => k_is)
    (case z_isinstance => k_is)
    (case z_int => k_is)
    (case z_bool => k_is)
    (case z_set => k_is)
    (case z_range => k_is)
    (case z_enumerate => k_is)
    (case z_zip => k_is)
    (case z_reversed => k_is)
    (case xa0 => k_is)
    (case xk0 => k_is)
    (case xb0 => k_is)
    (case xt0 => k_is)
    (case xe0 => k_exc)
    (case xa1 => k_is)
    (case xk1 => k_is)
    (case xb1 => k_is)
    (case xt1 => k_is)
    (case xe1 => k_exc)
    (case xa2 => k_is)
    (case xk2 => k_is)
    (case xb2 => k_is)
    (case xt2 => k_is)
    (case xa3 => k_is)
    (case xk3 => k_is)
    (case xb3 => k_is)
    (case xt3 => k_is)
    (case xe3 => k_exc)
    (case xa4 => k_is)
    (case xk4 => k_is)
    (case xb4 => k_is)
    (case xt4 => k_is)
    (case xe4 => k_exc)
    (case gl0 => k_is)
    (case gl1 => k_is)
    (case gl2 => k_is)
    (case gl3 => k_is)
    (case gt8 => k_is)
    (case gt6 => k_is)
    (case gl4 => k_is)
    (case gl5 => k_is)
    (case gt16 => k_is)
    (case gt14 => k_is)
    (case gt13 => k_is)
    (case gl6 => k_is)
    (case gt18 => k_is)
    (case gl7 => k_is)
    (case gt23 => k_is)
    (case gt22 => k_is)
    (case gt20 => k_is)

