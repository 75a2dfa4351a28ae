import PyProof.Rows.All
import Wide.All
import OpenK.AllK
import Wide.FinOn
import PyProof.EqAt
import PyProof.EqKinds
import PyProof.TupleCall
import HandS.ForMost
import HandS.Exc
import HandS.WordsExc
import HandS.Evl
import HandS.IsInst
import HandS.WideBits
import HandS.Wide
import HandS.Style
import HandS.Defaults
import HandS.MakeKwOnly
import HandS.Deep
import HandS.TupAny
import HandS.TupMul
import HandS.Zip
import HandS.Star
import HandS.Property
import HandS.Iter
import HandS.HeadHook1
import HandS.HeadHook2
import HandS.Sort
import HandS.SortOrd
import HandS.SortRule
import HandS.SortInts
import HandS.Dict
import HandS.TupLen
import HandS.Conv
import HandS.ExcOwn
import HandS.ExcInit
import HandS.ExcField
import HandS.ExcIs
import KE.KExcIs
import HandS.RaiseMore
import HandS.SetBool
import HandS.TupSets
import HandS.DictComp
import HandS.SetKeys
import KE.KDictCopyH
import PyProof.DictMoreH
import HandS.Flow
import KE.KUnpack
import KE.DataMinMax
import PyProof.Rows.CallKwBuiltin
import KE.GoesZip
import KE.GoesMore
import KE.KDictSum
import HandS.ExcValue
import HandS.Text
import HandS.FStr
import PyProof.StrBlock2
import KE.KCallOwn
import HandS.Nested
import HandS.ClsMeth
import KE.KSuper
import HandS.Spec
import PyProof.FactsAll.dict
import HandS.SuiteRaise
import HandS.List
import HandS.Steps
import HandS.TupLe
import PyProof.Rows.CountFlat
import KE.IntTextLaws
import HandS.Head0
import HandS.Head1
import HandS.Head2
import HandS.HeadEnd
import PySem.Challenge.RW_seenposts_k81_whole_texts_both_ways
set_option Elab.async false
set_option linter.all false
set_option maxRecDepth 100000
set_option maxHeartbeats 2000000
/-! A layer over the hand layer: typed data by representation, a frozen part of the heap, owned cells; what an expression computes as an Option of data. -/
namespace Mw
open PySem L2
open Evl (Ex)

/-! ### representations -/
structure Rp (α : Type) where
  r : Hp → V → α → Prop
  up : ∀ {H H' : Hp} {v : V} {a : α}, Ex H H' → r H v a → r H' v a

abbrev Rs {α : Type} (ra : Rp α) (H : Hp) : List V → List α → Prop := Paired (ra.r H)
theorem Rs.up {α : Type} {ra : Rp α} {H H' : Hp} {vs : List V} {ds : List α} (e : Ex H H') (h : Rs ra H vs ds) : Rs ra H' vs ds := L2.Paired.mapP h fun _ _ q => ra.up e q
def rInt : Rp Int := ⟨fun _ v i => v = .int i, fun _ h => h⟩
def rBool : Rp Bool := ⟨fun _ v b => v = .bl b, fun _ h => h⟩
def rStr : Rp Str := ⟨fun _ v s => v = .str s, fun _ h => h⟩
def rNon : Rp Unit := ⟨fun _ v _ => v = .non, fun _ h => h⟩
def rOpt {α : Type} (ra : Rp α) : Rp (Option α) := ⟨fun H v o => match o with
  | none => v = .non
  | some a => v ≠ .non ∧ ra.r H v a, fun {_ _ _ a} e h => match a, h with
  | none, h => h
  | some _, h => ⟨h.1, ra.up e h.2⟩⟩
def rLst {α : Type} (ra : Rp α) : Rp (List α) := ⟨fun H v ds => ∃ a vs, v = .ref a ∧ H a = some (.lst vs) ∧ Rs ra H vs ds, fun e ⟨a, vs, h1, h2, h3⟩ => ⟨a, vs, h1, e _ _ h2, Rs.up e h3⟩⟩
section
variable (K : PySem.W.Frag)
/-- a list that is only read (the script, one of the module's) -/
def rLsW {α : Type} (ra : Rp α) : Rp (List α) := ⟨fun H v ds => ∃ a vs, v = .ref a ∧ SqL K H a vs ∧ Rs ra H vs ds, fun e ⟨a, vs, h1, h2, h3⟩ => ⟨a, vs, h1, Evl.ex_l e h2, Rs.up e h3⟩⟩
def rTup (_ : PySem.W.Frag) {α : Type} (ra : Rp α) : Rp (List α) := ⟨fun H v ds => ∃ a vs, v = .ref a ∧ H a = some (.tup vs) ∧ Rs ra H vs ds, fun e ⟨a, vs, h1, h2, h3⟩ => ⟨a, vs, h1, e _ _ h2, Rs.up e h3⟩⟩
def rP2 (_ : PySem.W.Frag) {α β : Type} (ra : Rp α) (rb : Rp β) : Rp (α × β) := ⟨fun H v d => ∃ a v1 v2, v = .ref a ∧ H a = some (.tup [v1, v2]) ∧ ra.r H v1 d.1 ∧ rb.r H v2 d.2,
  fun e ⟨a, v1, v2, h1, h2, h3, h4⟩ => ⟨a, v1, v2, h1, e _ _ h2, ra.up e h3, rb.up e h4⟩⟩
def rP3 (_ : PySem.W.Frag) {α β γ : Type} (ra : Rp α) (rb : Rp β) (rc : Rp γ) : Rp (α × β × γ) := ⟨fun H v d => ∃ a v1 v2 v3, v = .ref a ∧ H a = some (.tup [v1, v2, v3]) ∧ ra.r H v1 d.1 ∧ rb.r H v2 d.2.1 ∧ rc.r H v3 d.2.2,
  fun e ⟨a, v1, v2, v3, h1, h2, h3, h4, h5⟩ => ⟨a, v1, v2, v3, h1, e _ _ h2, ra.up e h3, rb.up e h4, rc.up e h5⟩⟩
end

theorem ext_ {K : PySem.W.Frag} {F H : Hp} {a : Addr} {xs : List V} (e : Ex F H) (h : F a = some (.tup xs)) : SqT K H a xs := SqT.of (e _ _ h)
/-! ### cells: owned objects -/
/-- no tuple -/
def NT (o : HO) : Prop := match o with
  | .tup _ => False
  | _ => True
structure Cp where
  p : Hp → HO → Prop
  up : ∀ {H H' : Hp} {o : HO}, Ex H H' → p H o → p H' o
  nt : ∀ {H : Hp} {o : HO}, p H o → NT o
def cLst {α : Type} (ra : Rp α) (ds : List α) : Cp := ⟨fun F o => ∃ vs, o = .lst vs ∧ Rs ra F vs ds, fun e ⟨vs, h1, h2⟩ => ⟨vs, h1, Rs.up e h2⟩, fun ⟨_, h, _⟩ => by subst h; trivial⟩
abbrev Cs := List (Addr × Cp)
/-- an activation: the heap at entry, its frozen part, the cells handed in -/
structure Act where
  H0 : Hp
  F0 : Hp
  ps : List Addr
structure Cov (c : Act) (F : Hp) (cs : Cs) (H : Hp) : Prop where
  ex : Ex F H
  fz : Ex c.F0 F
  cell : ∀ x ∈ cs, F x.1 = none ∧ (c.H0 x.1 = none ∨ x.1 ∈ c.ps) ∧ ∃ o, H x.1 = some o ∧ x.2.p F o
  nd : (cs.map (·.1)).Nodup
  keep : ∀ b o, b ∉ c.ps → c.H0 b = some o → H b = some o
  nw : ∀ b o, F b = some o → c.F0 b = some o ∨ c.H0 b = none ∨ ∃ vs, o = .tup vs ∧ c.H0 b = some o
  dom : ∀ b, H b = none → c.H0 b = none
  pt : ∀ b ∈ c.ps, ∃ o, H b = some o ∧ NT o
section
variable {c : Act} {F H F' H' : Hp} {cs : Cs} {p : Addr} {o : HO} {x : Cp}
theorem Cov.fnone (h : Cov c F cs H) (hp : H p = none) : F p = none := by
  cases e : F p with
  | none => rfl
  | some o => rw [h.ex _ _ e] at hp; cases hp
theorem Cov.ptN (h : Cov c F cs H) (hp : H p = none) : ∀ b ∈ c.ps, ∃ u, upd H p o b = some u ∧ NT u := fun b hb => by
  obtain ⟨u, h1, h2⟩ := h.pt b hb
  exact ⟨u, by rw [upd_ne (ne_of_none h1 hp)]; exact h1, h2⟩
theorem Cov.ptS (h : Cov c F cs H) (n : NT o) : ∀ b ∈ c.ps, ∃ u, upd H p o b = some u ∧ NT u := fun b hb => by
  by_cases q : b = p
  · subst q; exact ⟨o, upd_same, n⟩
  · rw [upd_ne q]; exact h.pt b hb
/-- a new object, frozen at once -/
theorem Cov.lay (h : Cov c F cs H) (hp : H p = none) : Cov c (upd F p o) cs (upd H p o) := by
  have fp := h.fnone hp
  refine ⟨fun a u e => ?_, h.fz.trans (Ex.new fp), fun y hy => ?_, h.nd, fun b u hb e => ?_, fun b u e => ?_, fun b e => ?_, h.ptN hp⟩
  · by_cases q : a = p
    · subst q; rw [upd_same] at e ⊢; exact e
    · rw [upd_ne q] at e ⊢; exact h.ex _ _ e
  · obtain ⟨h1, h2, u, h3, h4⟩ := h.cell y hy
    have ny : y.1 ≠ p := ne_of_none h3 hp
    exact ⟨by rw [upd_ne ny]; exact h1, h2, u, by rw [upd_ne ny]; exact h3, y.2.up (Ex.new fp) h4⟩
  · have q := h.keep b u hb e
    rw [upd_ne (ne_of_none q hp)]; exact q
  · by_cases q : b = p
    · subst q; exact .inr (.inl (h.dom b hp))
    · rw [upd_ne q] at e; exact h.nw b u e
  · by_cases q : b = p
    · subst q; rw [upd_same] at e; cases e
    · rw [upd_ne q] at e; exact h.dom b e
/-- a new object, owned -/
theorem Cov.own0 (h : Cov c F cs H) (hp : H p = none) (hx : x.p F o) : Cov c F ((p, x) :: cs) (upd H p o) := by
  have fp := h.fnone hp
  refine ⟨fun a u e => ?_, h.fz, fun y hy => ?_, ?_, fun b u hb e => ?_, h.nw, fun b e => ?_, h.ptN hp⟩
  · rw [upd_ne (ne_of_none (h.ex _ _ e) hp)]; exact h.ex _ _ e
  · rcases List.mem_cons.mp hy with rfl | hy
    · exact ⟨fp, .inl (h.dom _ hp), o, upd_same, hx⟩
    · obtain ⟨h1, h2, u, h3, h4⟩ := h.cell y hy
      exact ⟨h1, h2, u, by rw [upd_ne (ne_of_none h3 hp)]; exact h3, h4⟩
  · rw [List.map_cons, List.nodup_cons]
    refine ⟨fun hm => ?_, h.nd⟩
    obtain ⟨y, hy, e⟩ := List.mem_map.mp hm
    obtain ⟨_, _, u, h3, _⟩ := h.cell y hy
    rw [e] at h3
    have h4 : H p = some u := h3
    rw [hp] at h4; cases h4
  · have q := h.keep b u hb e
    rw [upd_ne (ne_of_none q hp)]; exact q
  · by_cases q : b = p
    · subst q; rw [upd_same] at e; cases e
    · rw [upd_ne q] at e; exact h.dom b e
/-- the cell at hand -/
theorem Cov.head (h : Cov c F ((p, x) :: cs) H) : F p = none ∧ (c.H0 p = none ∨ p ∈ c.ps) ∧ ∃ o, H p = some o ∧ x.p F o := h.cell (p, x) List.mem_cons_self
theorem Cov.apart (h : Cov c F ((p, x) :: cs) H) : ∀ y ∈ cs, y.1 ≠ p := fun y hy e => by
  have q := h.nd
  rw [List.map_cons, List.nodup_cons] at q
  exact q.1 (List.mem_map.mpr ⟨y, hy, e⟩)
/-- the first cell changes -/
theorem Cov.set1 {x' : Cp} (h : Cov c F ((p, x) :: cs) H) (hx : x'.p F o) : Cov c F ((p, x') :: cs) (upd H p o) := by
  obtain ⟨f1, f2, u, f3, f4⟩ := h.head
  have ap := h.apart
  refine ⟨fun a v e => ?_, h.fz, fun y hy => ?_, h.nd, fun b v hb e => ?_, h.nw, fun b e => ?_, h.ptS (x'.nt hx)⟩
  · rw [upd_ne (ne_of_none e f1)]; exact h.ex _ _ e
  · rcases List.mem_cons.mp hy with rfl | hy
    · exact ⟨f1, f2, o, upd_same, hx⟩
    · obtain ⟨h1, h2, v, h3, h4⟩ := h.cell y (List.mem_cons_of_mem _ hy)
      exact ⟨h1, h2, v, by rw [upd_ne (ap y hy)]; exact h3, h4⟩
  · have nb : b ≠ p := fun z => by
      subst z
      rcases f2 with q | q
      · rw [q] at e; cases e
      · exact hb q
    rw [upd_ne nb]; exact h.keep b v hb e
  · by_cases q : b = p
    · subst q; rw [upd_same] at e; cases e
    · rw [upd_ne q] at e; exact h.dom b e
/-- cells in another order -/
theorem Cov.perm {cs' : Cs} (h : Cov c F cs H) (q : cs.Perm cs') : Cov c F cs' H :=
  ⟨h.ex, h.fz, fun y hy => h.cell y (q.mem_iff.mpr hy), (q.map _).nodup_iff.mp h.nd, h.keep, h.nw, h.dom, h.pt⟩
/-- the first cell is let go -/
theorem Cov.drop (h : Cov c F ((p, x) :: cs) H) : Cov c F cs H := by
  have q := h.nd
  rw [List.map_cons, List.nodup_cons] at q
  exact ⟨h.ex, h.fz, fun y hy => h.cell y (List.mem_cons_of_mem _ hy), q.2, h.keep, h.nw, h.dom, h.pt⟩
theorem Cov.dropAll (h : Cov c F cs H) : Cov c F [] H := ⟨h.ex, h.fz, fun _ hy => absurd hy List.not_mem_nil, List.nodup_nil, h.keep, h.nw, h.dom, h.pt⟩
/-- the first cell is frozen (its content as it stands) -/
theorem Cov.freeze (h : Cov c F ((p, x) :: cs) H) (hp : H p = some o) (hn : c.H0 p = none) : Cov c (upd F p o) cs H := by
  obtain ⟨f1, f2, u, f3, f4⟩ := h.head
  have ap := h.apart
  have hd := h.drop
  refine ⟨fun a v e => ?_, h.fz.trans (Ex.new f1), fun y hy => ?_, hd.nd, h.keep, fun b v e => ?_, h.dom, h.pt⟩
  · by_cases q : a = p
    · subst q; rw [upd_same] at e; cases e; exact hp
    · rw [upd_ne q] at e; exact h.ex _ _ e
  · obtain ⟨h1, h2, v, h3, h4⟩ := hd.cell y hy
    exact ⟨by rw [upd_ne (ap y hy)]; exact h1, h2, v, h3, y.2.up (Ex.new f1) h4⟩
  · by_cases q : b = p
    · subst q; exact .inr (.inl hn)
    · rw [upd_ne q] at e; exact h.nw b v e
theorem Cov.own (h : Cov c F cs H) (hp : H p = none) (hx : x.p F o) : Cov c F (cs ++ [(p, x)]) (upd H p o) := (h.own0 hp hx).perm (by
  have q := (List.perm_append_comm (l₁ := [(p, x)]) (l₂ := cs))
  exact q)
theorem Cov.toHead {l1 l2 : Cs} (h : Cov c F (l1 ++ (p, x) :: l2) H) : Cov c F ((p, x) :: (l1 ++ l2)) H := h.perm List.perm_middle
theorem Cov.ofHead {l1 l2 : Cs} (h : Cov c F ((p, x) :: (l1 ++ l2)) H) : Cov c F (l1 ++ (p, x) :: l2) H := h.perm List.perm_middle.symm
theorem Cov.split {i : Nat} (hi : cs[i]? = some (p, x)) : ∃ l1 l2, cs = l1 ++ (p, x) :: l2 ∧ l1.length = i := by
  obtain ⟨h1, h2⟩ := List.getElem?_eq_some_iff.mp hi
  refine ⟨cs.take i, cs.drop (i + 1), ?_, by rw [List.length_take]; omega⟩
  rw [← h2, List.getElem_cons_drop, List.take_append_drop]
/-- the i-th cell changes -/
theorem Cov.set {x' : Cp} (h : Cov c F cs H) (i : Nat) (hi : cs[i]? = some (p, x)) (hx : x'.p F o) : Cov c F (cs.set i (p, x')) (upd H p o) := by
  obtain ⟨l1, l2, rfl, rfl⟩ := Cov.split hi
  have q := (h.toHead.set1 (x' := x') hx).ofHead
  rw [List.set_append_right _ _ (Nat.le_refl _), Nat.sub_self]
  exact q
theorem Cov.at_ (h : Cov c F cs H) (i : Nat) (hi : cs[i]? = some (p, x)) : F p = none ∧ (c.H0 p = none ∨ p ∈ c.ps) ∧ ∃ o, H p = some o ∧ x.p F o := h.cell (p, x) (List.mem_of_getElem? hi)
/-- the i-th cell is frozen -/
theorem Cov.frzAt (h : Cov c F cs H) (i : Nat) (hi : cs[i]? = some (p, x)) (hp : H p = some o) (hn : c.H0 p = none) : Cov c (upd F p o) (cs.eraseIdx i) H := by
  obtain ⟨l1, l2, rfl, rfl⟩ := Cov.split hi
  rw [List.eraseIdx_append_of_length_le (Nat.le_refl _), Nat.sub_self]
  exact h.toHead.freeze hp hn
/-- only the first n are kept -/
theorem Cov.keepN (h : Cov c F cs H) (n : Nat) : Cov c F (cs.take n) H :=
  ⟨h.ex, h.fz, fun y hy => h.cell y (List.mem_of_mem_take hy), by rw [List.map_take]; exact h.nd.sublist (List.take_sublist _ _), h.keep, h.nw, h.dom, h.pt⟩
/-- rebased: an activation that begins here -/
theorem Cov.base (h : Cov c F cs H) : Cov ⟨H, F, cs.map (·.1)⟩ F cs H :=
  ⟨h.ex, Evl.Ex.refl F, fun y hy => by
    obtain ⟨h1, _, h3⟩ := h.cell y hy
    exact ⟨h1, .inr (List.mem_map.mpr ⟨y, hy, rfl⟩), h3⟩, h.nd, fun _ _ _ e => e, fun _ _ e => .inl e, fun _ e => e, fun b hb => by
    obtain ⟨y, hy, rfl⟩ := List.mem_map.mp hb
    obtain ⟨_, _, o, h3, h4⟩ := h.cell y hy
    exact ⟨o, h3, y.2.nt h4⟩⟩
/-- behind a part that owned cs1 of the cells (and leaves cs2 in their place) -/
theorem Cov.back {cs1 cs2 : Cs} (h : Cov c F (cs1 ++ cs) H) (k : Cov ⟨H, F, cs1.map (·.1)⟩ F' cs2 H') (old : ∀ y ∈ cs2, y.1 ∈ cs1.map (·.1) ∨ H y.1 = none) : Cov c F' (cs2 ++ cs) H' := by
  have nd := h.nd
  rw [List.map_append, List.nodup_append] at nd
  have kc : ∀ y ∈ cs, y.1 ∉ cs1.map (·.1) := fun y hy hm => nd.2.2 _ hm _ (List.mem_map.mpr ⟨y, hy, rfl⟩) rfl
  have hF : ∀ y ∈ cs, F' y.1 = none := fun y hy => by
    obtain ⟨h1, h2, o, h3, h4⟩ := h.cell y (List.mem_append_right _ hy)
    cases e : F' y.1 with
    | none => rfl
    | some u =>
      rcases k.nw _ _ e with q | q | ⟨vs, rfl, q⟩
      · have q' : F y.1 = some u := q
        rw [h1] at q'; cases q'
      · have q' : H y.1 = none := q
        rw [h3] at q'; cases q'
      · have q' : H y.1 = some (.tup vs) := q
        rw [h3] at q'; cases q'
        exact (y.2.nt h4).elim
  refine ⟨k.ex, h.fz.trans k.fz, fun y hy => ?_, ?_, fun b o hb e => ?_, fun b o e => ?_, fun b e => h.dom b (k.dom b e), fun b hb => ?_⟩
  · rcases List.mem_append.mp hy with hy | hy
    · obtain ⟨h1, h2, h3⟩ := k.cell y hy
      refine ⟨h1, ?_, h3⟩
      rcases old y hy with q | q
      · obtain ⟨z, hz, ez⟩ := List.mem_map.mp q
        obtain ⟨_, h5, _⟩ := h.cell z (List.mem_append_left _ hz)
        rw [← ez]; exact h5
      · exact .inl (h.dom _ q)
    · obtain ⟨h1, h2, o, h3, h4⟩ := h.cell y (List.mem_append_right _ hy)
      exact ⟨hF y hy, h2, o, k.keep _ _ (kc y hy) h3, y.2.up k.fz h4⟩
  · rw [List.map_append, List.nodup_append]
    refine ⟨k.nd, nd.2.1, fun a ha b hb e => ?_⟩
    obtain ⟨y, hy, ey⟩ := List.mem_map.mp ha
    obtain ⟨z, hz, ez⟩ := List.mem_map.mp hb
    rcases old y hy with q | q
    · exact nd.2.2 _ q _ (List.mem_map.mpr ⟨z, hz, rfl⟩) (by rw [ey, ez]; exact e)
    · obtain ⟨_, _, o, h3, _⟩ := h.cell z (List.mem_append_right _ hz)
      rw [ez, ← e, ← ey, q] at h3; cases h3
  · by_cases hm : b ∈ cs1.map (·.1)
    · obtain ⟨z, hz, ez⟩ := List.mem_map.mp hm
      obtain ⟨_, h5, _⟩ := h.cell z (List.mem_append_left _ hz)
      rcases h5 with q | q
      · rw [ez] at q; rw [q] at e; cases e
      · rw [ez] at q; exact absurd q hb
    · exact k.keep b o hm (h.keep b o hb e)
  · rcases k.nw b o e with q | q | ⟨vs, rfl, q⟩
    · exact h.nw b o q
    · exact .inr (.inl (h.dom b q))
    · have q' : H b = some (.tup vs) := q
      cases z : c.H0 b with
      | none => exact .inr (.inl rfl)
      | some u =>
        by_cases hb : b ∈ c.ps
        · obtain ⟨w, z1, z2⟩ := h.pt b hb
          rw [q'] at z1; cases z1
          exact z2.elim
        · have := h.keep b u hb z
          rw [q'] at this; cases this
          exact .inr (.inr ⟨vs, rfl, rfl⟩)
  · by_cases hm : b ∈ cs1.map (·.1)
    · exact k.pt b hm
    · obtain ⟨u, z1, z2⟩ := h.pt b hb
      exact ⟨u, k.keep b u hm z1, z2⟩
/-- behind a call that touched none of them -/
theorem Cov.call0 (h : Cov c F cs H) (k : Cov ⟨H, F, []⟩ F' [] H') : Cov c F' cs H' := h.back (cs1 := []) (cs2 := []) k fun _ hy => by cases hy
/-- a call that changed the first -/
theorem Cov.call1 {x' : Cp} (h : Cov c F ((p, x) :: cs) H) (k : Cov ⟨H, F, [p]⟩ F' [(p, x')] H') : Cov c F' ((p, x') :: cs) H' :=
  h.back (cs1 := [(p, x)]) (cs2 := [(p, x')]) k fun y hy => by
    rcases List.mem_cons.mp hy with rfl | hy
    · exact .inl List.mem_cons_self
    · cases hy
/-- a new cell that a call hands back -/
theorem Cov.old_new {cs2 : Cs} (k : Cov ⟨H, F, []⟩ F' cs2 H') : ∀ y ∈ cs2, y.1 ∈ ([] : List Addr) ∨ H y.1 = none := fun y hy => by
  obtain ⟨_, h2, _⟩ := k.cell y hy
  rcases h2 with q | q
  · exact .inr q
  · cases q
theorem Cov.call0n {cs2 : Cs} (h : Cov c F cs H) (k : Cov ⟨H, F, []⟩ F' cs2 H') : Cov c F' (cs ++ cs2) H' := (h.back (cs1 := []) (cs2 := cs2) k k.old_new).perm List.perm_append_comm
theorem Cov.old_ps {cs1 cs2 : Cs} (k : Cov ⟨H, F, cs1.map (·.1)⟩ F' cs2 H') : ∀ y ∈ cs2, y.1 ∈ cs1.map (·.1) ∨ H y.1 = none := fun y hy => by
  obtain ⟨_, h2, _⟩ := k.cell y hy
  rcases h2 with q | q
  · exact .inr q
  · exact .inl q
/-- a call that changed the i-th -/
theorem Cov.callAt {x' : Cp} (h : Cov c F cs H) (i : Nat) (hi : cs[i]? = some (p, x)) (k : Cov ⟨H, F, [p]⟩ F' [(p, x')] H') : Cov c F' (cs.set i (p, x')) H' := by
  obtain ⟨l1, l2, rfl, rfl⟩ := Cov.split hi
  have q := (h.toHead.call1 k).ofHead
  rw [List.set_append_right _ _ (Nat.le_refl _), Nat.sub_self]
  exact q
theorem Cov.preAt (h : Cov c F cs H) (i : Nat) (hi : cs[i]? = some (p, x)) : Cov ⟨H, F, [p]⟩ F [(p, x)] H := by
  obtain ⟨h1, _, h3⟩ := h.at_ i hi
  refine ⟨h.ex, Evl.Ex.refl F, fun y hy => ?_, by simp, fun _ _ _ e => e, fun _ _ e => Or.inl e, fun _ e => e, fun b hb => by
    obtain ⟨o, g1, g2⟩ := h3
    rw [List.mem_singleton.mp hb]
    exact ⟨o, g1, x.nt g2⟩⟩
  rcases List.mem_cons.mp hy with rfl | hy
  · exact ⟨h1, Or.inr List.mem_cons_self, h3⟩
  · exact absurd hy List.not_mem_nil
end

/-! ### what an expression computes -/
/-- te gives m's value, the cells as they were -/
def EM {α : Type} (ra : Rp α) (te : TE) (σ : L2.St) (F : Hp) (cs : Cs) (m : Option α) : Prop := ∀ d, m = some d → ∀ c F1 H, Ex F F1 → Cov c F1 cs H → ∀ Q : VK, (∀ v F2 H2, Ex F1 F2 → Cov c F2 cs H2 → ra.r F2 v d → Q v H2) → te σ H Q
/-- te gives a new list of m's items, an owned cell -/
def EF {α : Type} (ra : Rp α) (te : TE) (σ : L2.St) (F : Hp) (cs : Cs) (m : Option (List α)) : Prop := ∀ d, m = some d → ∀ c F1 H, Ex F F1 → Cov c F1 cs H → ∀ Q : VK, (∀ p F2 H2, Ex F1 F2 → Cov c F2 (cs ++ [(p, cLst ra d)]) H2 → c.H0 p = none → Q (.ref p) H2) → te σ H Q
def EA {α : Type} (ra : Rp α) (ta : TA) (σ : L2.St) (F : Hp) (cs : Cs) (m : Option (List α)) : Prop := ∀ d, m = some d → ∀ c F1 H, Ex F F1 → Cov c F1 cs H → ∀ Q : List V → Hp → Prop, (∀ vs F2 H2, Ex F1 F2 → Cov c F2 cs H2 → Rs ra F2 vs d → Q vs H2) → ta σ H Q
def ET (tt : TT) (σ : L2.St) (F : Hp) (cs : Cs) (m : Option Bool) : Prop := ∀ d, m = some d → ∀ c F1 H, Ex F F1 → Cov c F1 cs H → ∀ Q : Bool → Hp → Prop, (∀ F2 H2, Ex F1 F2 → Cov c F2 cs H2 → Q d H2) → tt σ H Q
/-- an operation upon values -/
def VO {α β γ : Type} (rd : R2) (ra : Rp α) (rb : Rp β) (rc : Rp γ) (g : α → β → Option γ) : Prop := ∀ c F cs H v w a b d, Cov c F cs H → ra.r F v a → rb.r F w b → g a b = some d → ∀ Q : VK, (∀ u F2 H2, Ex F F2 → Cov c F2 cs H2 → rc.r F2 u d → Q u H2) → rd v w H Q
def VU {α γ : Type} (rd : V → Hp → VK → Prop) (ra : Rp α) (rc : Rp γ) (g : α → Option γ) : Prop := ∀ c F cs H v a d, Cov c F cs H → ra.r F v a → g a = some d → ∀ Q : VK, (∀ u F2 H2, Ex F F2 → Cov c F2 cs H2 → rc.r F2 u d → Q u H2) → rd v H Q
def VC {α γ : Type} (rd : List V → Hp → VK → Prop) (ra : Rp α) (rc : Rp γ) (g : α → Option γ) : Prop := ∀ c F cs H v a d, Cov c F cs H → ra.r F v a → g a = some d → ∀ Q : VK, (∀ u F2 H2, Ex F F2 → Cov c F2 cs H2 → rc.r F2 u d → Q u H2) → rd [v] H Q
def VC2 {α β γ : Type} (rd : List V → Hp → VK → Prop) (ra : Rp α) (rb : Rp β) (rc : Rp γ) (g : α → β → Option γ) : Prop := ∀ c F cs H v w a b d, Cov c F cs H → ra.r F v a → rb.r F w b → g a b = some d → ∀ Q : VK, (∀ u F2 H2, Ex F F2 → Cov c F2 cs H2 → rc.r F2 u d → Q u H2) → rd [v, w] H Q
/-! ### data -/
def o1 {α γ : Type} (g : α → Option γ) (ma : Option α) : Option γ := ma.bind g
def o2 {α β γ : Type} (g : α → β → Option γ) (ma : Option α) (mb : Option β) : Option γ := ma.bind fun a => mb.bind fun b => g a b
def oAnd (a b : Option Bool) : Option Bool := a.bind fun x => if x = true then b else some false
def oOr (a b : Option Bool) : Option Bool := a.bind fun x => if x = true then some true else b
def oNot (a : Option Bool) : Option Bool := a.map fun x => !x
def oIf {α : Type} (c : Option Bool) (a b : Option α) : Option α := c.bind fun x => if x = true then a else b
def oCons {α : Type} (a : Option α) (l : Option (List α)) : Option (List α) := a.bind fun x => l.bind fun r => some (x :: r)
def addG (a b : Int) : Option Int := some (a + b)
def subG (a b : Int) : Option Int := some (a - b)
def mulG (a b : Int) : Option Int := if a.natAbs < 2 ^ 64 ∨ b.natAbs < 2 ^ 64 ∨ a.natAbs.log2 + b.natAbs.log2 ≤ 134000000 then some (a * b) else none
def divG (a b : Int) : Option Int := if 0 < b ∧ b.natAbs.log2 < 9000 then some (a / b) else if b < 0 ∧ b.natAbs.log2 < 9000 then some (Int.fdiv a b) else none
def modG (a b : Int) : Option Int := if 0 < b then some (a % b) else none
def ltG (a b : Int) : Option Bool := some (decide (a < b))
def leG (a b : Int) : Option Bool := some (decide (a ≤ b))
def gtG (a b : Int) : Option Bool := some (decide (b < a))
def geG (a b : Int) : Option Bool := some (decide (b ≤ a))
def eqG {α : Type} [DecidableEq α] (a b : α) : Option Bool := some (decide (a = b))
def neG {α : Type} [DecidableEq α] (a b : α) : Option Bool := some (!decide (a = b))
def ixG {α : Type} (l : List α) (i : Int) : Option α := atI l i
def setG {α : Type} (l : List α) (i : Int) (x : α) : Option (List α) := (ixN l.length i).map fun j => l.set j x
def absG (a : Int) : Option Int := some (if a < 0 then -a else a)
def negG (a : Int) : Option Int := some (-a)
def maxG (a b : Int) : Option Int := some (if b > a then b else a)
def minG (a b : Int) : Option Int := some (if b < a then b else a)
def lenG {α : Type} (l : List α) : Option Int := some (l.length : Int)
def catG {α : Type} (a b : List α) : Option (List α) := if a.length + b.length ≤ 16000000 then some (a ++ b) else none
def repG {α : Type} (a : List α) (k : Int) : Option (List α) := if -(2 ^ 63) ≤ k ∧ k < 2 ^ 20 ∧ a.length ≤ 15 then some (List.replicate k.toNat a).flatten else none
def cut {α : Type} (xs : List α) (lo hi : Option Int) : List α := (xs.drop (HT.sIx xs.length 0 lo)).take (HT.sIx xs.length xs.length hi - HT.sIx xs.length 0 lo)
def b2i (k : Bool) : Int := if k then 1 else 0

theorem o1_some {α γ : Type} {g : α → Option γ} {ma : Option α} {d : γ} (h : o1 g ma = some d) : ∃ a, ma = some a ∧ g a = some d := by
  cases ma with
  | none => cases h
  | some a => exact ⟨a, rfl, h⟩
theorem o2_some {α β γ : Type} {g : α → β → Option γ} {ma : Option α} {mb : Option β} {d : γ} (h : o2 g ma mb = some d) : ∃ a b, ma = some a ∧ mb = some b ∧ g a b = some d := by
  cases ma with
  | none => cases h
  | some a => cases mb with
    | none => cases h
    | some b => exact ⟨a, b, rfl, rfl, h⟩
theorem bind_some {α γ : Type} {g : α → Option γ} {ma : Option α} {d : γ} (h : ma.bind g = some d) : ∃ a, ma = some a ∧ g a = some d := by
  cases ma with
  | none => cases h
  | some a => exact ⟨a, rfl, h⟩

/-! ### expressions -/
section
variable {α β γ : Type} {ra : Rp α} {rb : Rp β} {rc : Rp γ} {σ : L2.St} {F : Hp} {cs : Cs} {ta tb te : TE} {t u : TT} {v : V} {d : α} {ma : Option α} {mb : Option β} {K : PySem.W.Frag}
theorem EM.up {F' : Hp} (h : EM ra te σ F cs ma) (e : Ex F F') : EM ra te σ F' cs ma := fun d q c F1 H e1 => h d q c F1 H (e.trans e1)
theorem em_var {i : Nat} (h : σ[i]? = some (some v)) (r : ra.r F v d) : EM ra (tVar i) σ F cs (some d) := fun d' q c F1 H e k Q hQ => by
  cases q
  exact ⟨v, h, hQ v F1 H (Evl.Ex.refl _) k (ra.up e r)⟩
/-- a value that does not stand on the heap -/
def Flat {α : Type} (ra : Rp α) : Prop := ∀ F F' v d, ra.r F v d → ra.r F' v d
theorem fl_int : Flat rInt := fun _ _ _ _ h => h
theorem fl_str : Flat rStr := fun _ _ _ _ h => h
theorem em_varf {i : Nat} {F0 : Hp} (f : Flat ra) (h : σ[i]? = some (some v)) (r : ra.r F0 v d) : EM ra (tVar i) σ F cs (some d) := fun d' q c F1 H e k Q hQ => by
  cases q
  exact ⟨v, h, hQ v F1 H (Evl.Ex.refl _) k (f _ _ _ _ r)⟩
theorem em_c (r : ∀ H, ra.r H v d) : EM ra (tC v) σ F cs (some d) := fun d' q c F1 H e k Q hQ => by
  cases q
  exact hQ v F1 H (Evl.Ex.refl _) k (r _)
theorem em_int {i : Int} : EM rInt (tC (.int i)) σ F cs (some i) := em_c fun _ => rfl
theorem em_bl {b : Bool} : EM rBool (tC (.bl b)) σ F cs (some b) := em_c fun _ => rfl
theorem em_str {s : Str} : EM rStr (tC (.str s)) σ F cs (some s) := em_c fun _ => rfl
theorem em_non : EM (rOpt ra) (tC .non) σ F cs (some none) := em_c fun _ => rfl
theorem em_op {rd : R2} {g : α → β → Option γ} (hv : VO rd ra rb rc g) (ha : EM ra ta σ F cs ma) (hb : EM rb tb σ F cs mb) : EM rc (tOp rd ta tb) σ F cs (o2 g ma mb) := fun d q c F1 H e k Q hQ => by
  obtain ⟨a, b, q1, q2, q3⟩ := o2_some q
  refine ha a q1 c F1 H e k _ fun x F2 H2 e2 k2 r2 => hb b q2 c F2 H2 (e.trans e2) k2 _ fun y F3 H3 e3 k3 r3 => hv c F3 cs H3 x y a b d k3 (ra.up e3 r2) r3 q3 Q fun z F4 H4 e4 k4 r4 => hQ z F4 H4 ((e2.trans e3).trans e4) k4 r4
theorem em_un {rd : V → Hp → VK → Prop} {g : α → Option γ} (hv : VU rd ra rc g) (ha : EM ra ta σ F cs ma) : EM rc (tUn rd ta) σ F cs (o1 g ma) := fun d q c F1 H e k Q hQ => by
  obtain ⟨a, q1, q3⟩ := o1_some q
  refine ha a q1 c F1 H e k _ fun x F2 H2 e2 k2 r2 => hv c F2 cs H2 x a d k2 r2 q3 Q fun z F4 H4 e4 k4 r4 => hQ z F4 H4 (e2.trans e4) k4 r4
theorem em_cb {rd : List V → Hp → VK → Prop} {g : α → Option γ} (hv : VC rd ra rc g) (ha : EM ra ta σ F cs ma) : EM rc (tCB rd (tCons ta tNil)) σ F cs (o1 g ma) := fun d q c F1 H e k Q hQ => by
  obtain ⟨a, q1, q3⟩ := o1_some q
  refine ha a q1 c F1 H e k _ fun x F2 H2 e2 k2 r2 => hv c F2 cs H2 x a d k2 r2 q3 Q fun z F4 H4 e4 k4 r4 => hQ z F4 H4 (e2.trans e4) k4 r4
theorem em_cb2 {rd : List V → Hp → VK → Prop} {g : α → β → Option γ} (hv : VC2 rd ra rb rc g) (ha : EM ra ta σ F cs ma) (hb : EM rb tb σ F cs mb) : EM rc (tCB rd (tCons ta (tCons tb tNil))) σ F cs (o2 g ma mb) := fun d q c F1 H e k Q hQ => by
  obtain ⟨a, b, q1, q2, q3⟩ := o2_some q
  refine ha a q1 c F1 H e k _ fun x F2 H2 e2 k2 r2 => hb b q2 c F2 H2 (e.trans e2) k2 _ fun y F3 H3 e3 k3 r3 => hv c F3 cs H3 x y a b d k3 (ra.up e3 r2) r3 q3 Q fun z F4 H4 e4 k4 r4 => hQ z F4 H4 ((e2.trans e3).trans e4) k4 r4
theorem em_eq {m m' : Option α} (h : EM ra te σ F cs m) (e : m = m') : EM ra te σ F cs m' := e ▸ h
theorem et_eq {m m' : Option Bool} (h : ET t σ F cs m) (e : m = m') : ET t σ F cs m' := e ▸ h
/-- a new list, frozen -/
theorem EF.em {m : Option (List α)} (h : EF ra te σ F cs m) : EM (rLst ra) te σ F cs m := fun d q c F1 H e k Q hQ => by
  refine h d q c F1 H e k Q fun p F2 H2 e2 k2 n2 => ?_
  obtain ⟨f1, _, o, f3, vs, rfl, f4⟩ := k2.cell (p, cLst ra d) (List.mem_append_right _ List.mem_cons_self)
  exact hQ (.ref p) _ H2 (e2.trans (Ex.new f1)) (k2.toHead.freeze f3 n2 |>.perm (by rw [List.append_nil])) ⟨p, vs, rfl, upd_same, Rs.up (Ex.new f1) f4⟩
/-! tests -/
theorem et_test {m : Option Bool} (h : EM rBool te σ F cs m) : ET (tTest te) σ F cs m := fun d q c F1 H e k Q hQ => h d q c F1 H e k _ fun v F2 H2 e2 k2 r2 => ⟨d, r2, hQ F2 H2 e2 k2⟩
theorem et_B {m : Option Bool} (h : EM rBool te σ F cs m) : ET (tB te) σ F cs m := fun d q c F1 H e k Q hQ => h d q c F1 H e k _ fun v F2 H2 e2 k2 r2 => ⟨d, r2, hQ F2 H2 e2 k2⟩
theorem et_and {m n : Option Bool} (h1 : ET t σ F cs m) (h2 : ET u σ F cs n) : ET (tAnd t u) σ F cs (oAnd m n) := fun d q c F1 H e k Q hQ => by
  obtain ⟨a, q1, q2⟩ := bind_some q
  refine h1 a q1 c F1 H e k _ fun F2 H2 e2 k2 => ?_
  cases a with
  | true =>
    show u σ H2 Q
    exact h2 d q2 c F2 H2 (e.trans e2) k2 Q fun F3 H3 e3 k3 => hQ F3 H3 (e2.trans e3) k3
  | false =>
    cases q2
    show Q false H2
    exact hQ F2 H2 e2 k2
theorem et_or {m n : Option Bool} (h1 : ET t σ F cs m) (h2 : ET u σ F cs n) : ET (tOr t u) σ F cs (oOr m n) := fun d q c F1 H e k Q hQ => by
  obtain ⟨a, q1, q2⟩ := bind_some q
  refine h1 a q1 c F1 H e k _ fun F2 H2 e2 k2 => ?_
  cases a with
  | true =>
    cases q2
    show Q true H2
    exact hQ F2 H2 e2 k2
  | false =>
    show u σ H2 Q
    exact h2 d q2 c F2 H2 (e.trans e2) k2 Q fun F3 H3 e3 k3 => hQ F3 H3 (e2.trans e3) k3
theorem et_not {m : Option Bool} (h1 : ET t σ F cs m) : ET (tNot t) σ F cs (oNot m) := fun d q c F1 H e k Q hQ => by
  cases m with
  | none => cases q
  | some a =>
    cases q
    exact h1 a rfl c F1 H e k _ fun F2 H2 e2 k2 => hQ F2 H2 e2 k2
theorem em_andV {m n : Option Bool} (h1 : EM rBool ta σ F cs m) (h2 : EM rBool tb σ F cs n) : EM rBool (tAndV ta tb) σ F cs (oAnd m n) := fun d q c F1 H e k Q hQ => by
  obtain ⟨a, q1, q2⟩ := bind_some q
  refine h1 a q1 c F1 H e k _ fun v F2 H2 e2 k2 r2 => ⟨a, r2, ?_⟩
  cases a with
  | true =>
    show tb σ H2 Q
    exact h2 d q2 c F2 H2 (e.trans e2) k2 Q fun v F3 H3 e3 k3 r3 => hQ v F3 H3 (e2.trans e3) k3 r3
  | false =>
    cases q2
    show Q (.bl false) H2
    exact hQ _ F2 H2 e2 k2 rfl
/-! argument lists, displays -/
theorem ea_nil : EA ra tNil σ F cs (some []) := fun d q c F1 H e k Q hQ => by
  cases q
  exact hQ [] F1 H (Evl.Ex.refl _) k .nil
theorem ea_cons {tr : TA} {l : Option (List α)} (h : EM ra ta σ F cs ma) (hr : EA ra tr σ F cs l) : EA ra (tCons ta tr) σ F cs (oCons ma l) := fun d q c F1 H e k Q hQ => by
  obtain ⟨a, q1, q2⟩ := bind_some q
  obtain ⟨b, q3, q4⟩ := bind_some q2
  cases q4
  exact h a q1 c F1 H e k _ fun v F2 H2 e2 k2 r2 => hr b q3 c F2 H2 (e.trans e2) k2 _ fun vs F3 H3 e3 k3 r3 => hQ (v :: vs) F3 H3 (e2.trans e3) k3 (.cons (ra.up e3 r2) r3)
def szG {α : Type} (l : List α) : Option (List α) := if l.length ≤ 16000000 then some l else none
theorem szG_some {l d : List α} (h : szG l = some d) : d = l ∧ l.length ≤ 16000000 := by
  unfold szG at h
  split at h
  · cases h; exact ⟨rfl, by assumption⟩
  · cases h
theorem sz_ok {n : Nat} (h : n ≤ 16000000) : n ≤ sizeLine := by
  rw [sizeLine_eq]; omega
theorem ef_lst {ta : TA} {l : Option (List α)} (h : EA ra ta σ F cs l) : EF ra (tLst ta) σ F cs (o1 szG l) := fun d q c F1 H e k Q hQ => by
  obtain ⟨a, q1, q2⟩ := o1_some q
  obtain ⟨rfl, hl⟩ := szG_some q2
  refine h _ q1 c F1 H e k _ fun vs F2 H2 e2 k2 r2 => ⟨sz_ok (by rw [r2.length]; exact hl), fun p hp => hQ p F2 _ e2 (k2.own hp ⟨vs, rfl, r2⟩) (k2.dom p hp)⟩
theorem em_tup {ta : TA} {l : Option (List α)} (h : EA ra ta σ F cs l) : EM (rTup K ra) (tTup ta) σ F cs (o1 szG l) := fun d q c F1 H e k Q hQ => by
  obtain ⟨a, q1, q2⟩ := o1_some q
  obtain ⟨rfl, hl⟩ := szG_some q2
  refine h _ q1 c F1 H e k _ fun vs F2 H2 e2 k2 r2 => ⟨sz_ok (by rw [r2.length]; exact hl), fun p hp => hQ (.ref p) _ _ (e2.trans (Ex.new (k2.fnone hp))) (k2.lay hp) ⟨p, vs, rfl, upd_same, Rs.up (Ex.new (k2.fnone hp)) r2⟩⟩
end
end Mw

set_option maxHeartbeats 2000000
namespace Mw
open PySem L2
open Evl (Ex)

/-! ### operations upon ints, bools -/
section
theorem vo_add : VO (rI0 fun i j => .int (i + j)) rInt rInt rInt addG := fun c F cs H v w a b d k r1 r2 q Q hQ => by
  cases q; exact ⟨a, b, r1, r2, hQ _ F H (Evl.Ex.refl _) k rfl⟩
theorem vo_sub : VO (rI0 fun i j => .int (i - j)) rInt rInt rInt subG := fun c F cs H v w a b d k r1 r2 q Q hQ => by
  cases q; exact ⟨a, b, r1, r2, hQ _ F H (Evl.Ex.refl _) k rfl⟩
theorem mulG_ok {a b : Int} (h : a.natAbs < 2 ^ 64 ∨ b.natAbs < 2 ^ 64 ∨ a.natAbs.log2 + b.natAbs.log2 ≤ 134000000) : PySem.IntMulOk a b := by
  have q : ∀ x : Int, Builtin.Int.intBits x ≤ x.natAbs.log2 + 1 := fun x => by
    unfold Builtin.Int.intBits
    split <;> omega
  rcases h with h | h | h
  · have z := PySem.Flt.log2_lt_of (by decide : 0 < 64) h
    exact PySem.IntMulOk.of_left (by have := q a; omega)
  · have z := PySem.Flt.log2_lt_of (by decide : 0 < 64) h
    exact PySem.IntMulOk.of_right (by have := q b; omega)
  · have h1 := q a
    have h2 := q b
    exact CMulX.ok (by unfold CMulX; omega)
theorem op_mulI {X : Cx} : OpR X (binaryOp .Mult) (rI PySem.IntMulOk fun i j => .int (i * j)) := opI fun _ _ _ _ _ _ _ hc q => PyProof.Rows.mul_int q hc
theorem vo_mul : VO (rI PySem.IntMulOk fun i j => .int (i * j)) rInt rInt rInt mulG := fun c F cs H v w a b d k r1 r2 q Q hQ => by
  unfold mulG at q
  split at q
  · rename_i h
    cases q
    exact ⟨a, b, r1, r2, mulG_ok h, hQ _ F H (Evl.Ex.refl _) k rfl⟩
  · cases q
def CDivF (_ j : Int) : Prop := j ≠ 0 ∧ j.natAbs.log2 < 9000
theorem op_fdivF {X : Cx} : OpR X (binaryOp .FloorDiv) (rI CDivF fun i j => .int (Int.fdiv i j)) := opI fun i j _ _ _ _ _ hc q => PyProof.Rows.floordiv_int hc.1 q (.inl (PyProof.noPylong_of_log2 hc.2))
theorem vo_div : VO (rI CDivF fun i j => .int (Int.fdiv i j)) rInt rInt rInt divG := fun c F cs H v w a b d k r1 r2 q Q hQ => by
  unfold divG at q
  split at q
  · rename_i h
    cases q
    exact ⟨a, b, r1, r2, ⟨by omega, h.2⟩, hQ _ F H (Evl.Ex.refl _) k (congrArg V.int (Int.fdiv_eq_ediv_of_nonneg a (show 0 ≤ b by omega)))⟩
  · split at q
    · rename_i h
      cases q
      exact ⟨a, b, r1, r2, ⟨by omega, h.2⟩, hQ _ F H (Evl.Ex.refl _) k rfl⟩
    · cases q
theorem vo_mod : VO (rI (fun _ j => 0 < j) fun i j => .int (i % j)) rInt rInt rInt modG := fun c F cs H v w a b d k r1 r2 q Q hQ => by
  unfold modG at q
  split at q
  · rename_i h
    cases q
    exact ⟨a, b, r1, r2, h, hQ _ F H (Evl.Ex.refl _) k rfl⟩
  · cases q
theorem vo_lt : VO (rI0 fun i j => .bl (decide (i < j))) rInt rInt rBool ltG := fun c F cs H v w a b d k r1 r2 q Q hQ => by
  cases q; exact ⟨a, b, r1, r2, hQ _ F H (Evl.Ex.refl _) k rfl⟩
theorem vo_gt : VO (rI0 fun i j => .bl (decide (j < i))) rInt rInt rBool gtG := fun c F cs H v w a b d k r1 r2 q Q hQ => by
  cases q; exact ⟨a, b, r1, r2, hQ _ F H (Evl.Ex.refl _) k rfl⟩
theorem dec_int {a b : Int} : decide (V.int a = V.int b) = decide (a = b) := by
  by_cases h : a = b
  · rw [decide_eq_true h, decide_eq_true (congrArg V.int h)]
  · rw [decide_eq_false h, decide_eq_false fun e => h (V.int.inj e)]
theorem dec_bl {a b : Bool} : decide (V.bl a = V.bl b) = decide (a = b) := by
  by_cases h : a = b
  · rw [decide_eq_true h, decide_eq_true (congrArg V.bl h)]
  · rw [decide_eq_false h, decide_eq_false fun e => h (V.bl.inj e)]
theorem dec_str {a b : Str} : decide (V.str a = V.str b) = decide (a = b) := by
  by_cases h : a = b
  · rw [decide_eq_true h, decide_eq_true (congrArg V.str h)]
  · rw [decide_eq_false h, decide_eq_false fun e => h (V.str.inj e)]
theorem vo_eqI : VO rEq rInt rInt rBool eqG := fun c F cs H v w a b d k r1 r2 q Q hQ => by
  cases r1; cases r2; cases q
  exact ⟨rfl, hQ _ F H (Evl.Ex.refl _) k (congrArg V.bl dec_int)⟩
theorem vo_neI : VO rNe rInt rInt rBool neG := fun c F cs H v w a b d k r1 r2 q Q hQ => by
  cases r1; cases r2; cases q
  exact ⟨rfl, hQ _ F H (Evl.Ex.refl _) k (congrArg V.bl (congrArg (fun z => !z) dec_int))⟩
theorem vo_eqB : VO rEq rBool rBool rBool eqG := fun c F cs H v w a b d k r1 r2 q Q hQ => by
  cases r1; cases r2; cases q
  exact ⟨rfl, hQ _ F H (Evl.Ex.refl _) k (congrArg V.bl dec_bl)⟩
theorem vo_eqS : VO rEq rStr rStr rBool eqG := fun c F cs H v w a b d k r1 r2 q Q hQ => by
  cases r1; cases r2; cases q
  exact ⟨rfl, hQ _ F H (Evl.Ex.refl _) k (congrArg V.bl dec_str)⟩
theorem vo_neS : VO rNe rStr rStr rBool neG := fun c F cs H v w a b d k r1 r2 q Q hQ => by
  cases r1; cases r2; cases q
  exact ⟨rfl, hQ _ F H (Evl.Ex.refl _) k (congrArg V.bl (congrArg (fun z => !z) dec_str))⟩
theorem vu_neg : VU (rU fun i => .int (-i)) rInt rInt negG := fun c F cs H v a d k r1 q Q hQ => by
  cases q; exact ⟨a, r1, hQ _ F H (Evl.Ex.refl _) k rfl⟩
theorem vc_abs : VC (fun xs H Q => ∃ i, xs = [.int i] ∧ Q (.int (if i < 0 then -i else i)) H) rInt rInt absG := fun c F cs H v a d k r1 q Q hQ => by
  cases q; cases r1; exact ⟨a, rfl, hQ _ F H (Evl.Ex.refl _) k rfl⟩
theorem vc_int : VC (fun xs H Q => (∃ i, xs = [.int i] ∧ Q (.int i) H) ∨ ∃ k, xs = [.bl k] ∧ Q (.int (if k then 1 else 0)) H) rInt rInt some := fun c F cs H v a d k r1 q Q hQ => by
  cases q; cases r1; exact .inl ⟨a, rfl, hQ _ F H (Evl.Ex.refl _) k rfl⟩
theorem vc_intB : VC (fun xs H Q => (∃ i, xs = [.int i] ∧ Q (.int i) H) ∨ ∃ k, xs = [.bl k] ∧ Q (.int (if k then 1 else 0)) H) rBool rInt (fun b => some (b2i b)) := fun c F cs H v a d k r1 q Q hQ => by
  cases q; cases r1; exact .inr ⟨a, rfl, hQ _ F H (Evl.Ex.refl _) k rfl⟩
theorem vc_max : VC2 (fun xs H Q => ∃ i j, xs = [.int i, .int j] ∧ Q (.int (if j > i then j else i)) H) rInt rInt rInt maxG := fun c F cs H v w a b d k r1 r2 q Q hQ => by
  cases q; cases r1; cases r2; exact ⟨a, b, rfl, hQ _ F H (Evl.Ex.refl _) k rfl⟩
end

/-! ### lists as operands: frozen ones and owned cells -/
/-- v is a list of ds: a frozen one, or one of the cells -/
def LV {α : Type} (K : PySem.W.Frag) (ra : Rp α) (cs : Cs) (F : Hp) (v : V) (ds : List α) : Prop := ((rLst ra).r F v ds ∨ (rLsW K ra).r F v ds) ∨ ∃ p, v = .ref p ∧ (p, cLst ra ds) ∈ cs
def EL {α : Type} (K : PySem.W.Frag) (ra : Rp α) (te : TE) (σ : L2.St) (F : Hp) (cs : Cs) (m : Option (List α)) : Prop := ∀ d, m = some d → ∀ c F1 H, Ex F F1 → Cov c F1 cs H → ∀ Q : VK, (∀ v F2 H2, Ex F1 F2 → Cov c F2 cs H2 → LV K ra cs F2 v d → Q v H2) → te σ H Q
section
variable {α β γ : Type} {K : PySem.W.Frag} {ra : Rp α} {rb : Rp β} {rc : Rp γ} {cs : Cs} {F F' H : Hp} {v : V} {ds : List α} {c : Act} {σ : L2.St} {ta tb te : TE} {ma : Option (List α)} {mb : Option β}
theorem LV.up (h : LV K ra cs F v ds) (e : Ex F F') : LV K ra cs F' v ds := h.imp (fun q => q.imp ((rLst ra).up e) ((rLsW K ra).up e)) fun q => q
theorem LV.see (h : LV K ra cs F v ds) (k : Cov c F cs H) : ∃ a vs, v = .ref a ∧ SqL K H a vs ∧ Rs ra F vs ds := by
  rcases h with (⟨a, vs, h1, h2, h3⟩ | ⟨a, vs, h1, h2, h3⟩) | ⟨p, h1, h2⟩
  · exact ⟨a, vs, h1, SqL.of (k.ex _ _ h2), h3⟩
  · exact ⟨a, vs, h1, Evl.ex_l k.ex h2, h3⟩
  · obtain ⟨_, _, o, h3, vs, rfl, h4⟩ := k.cell _ h2
    exact ⟨p, vs, h1, SqL.of h3, h4⟩
theorem EM.el (h : EM (rLst ra) te σ F cs ma) : EL K ra te σ F cs ma := fun d q c F1 H e k Q hQ => h d q c F1 H e k Q fun v F2 H2 e2 k2 r2 => hQ v F2 H2 e2 k2 (.inl (.inl r2))
theorem EM.elw (h : EM (rLsW K ra) te σ F cs ma) : EL K ra te σ F cs ma := fun d q c F1 H e k Q hQ => h d q c F1 H e k Q fun v F2 H2 e2 k2 r2 => hQ v F2 H2 e2 k2 (.inl (.inr r2))
/-- a cell, read -/
theorem el_cell {i j : Nat} {p : Addr} (h : σ[i]? = some (some (.ref p))) (hj : cs[j]? = some (p, cLst ra ds)) : EL K ra (tVar i) σ F cs (some ds) := fun d q c F1 H e k Q hQ => by
  cases q
  exact ⟨_, h, hQ _ F1 H (Evl.Ex.refl _) k (.inr ⟨p, rfl, List.mem_of_getElem? hj⟩)⟩
theorem rs_get {vs : List V} {ds : List α} (h : Rs ra F vs ds) : ∀ {i : Nat} {d : α}, ds[i]? = some d → ∃ v, vs[i]? = some v ∧ ra.r F v d := by
  induction h with
  | nil => intro i d e; simp at e
  | cons r t ih =>
    intro i d e
    cases i with
    | zero => simp at e; subst e; exact ⟨_, rfl, r⟩
    | succ i => simp at e; obtain ⟨v, h1, h2⟩ := ih e; exact ⟨v, by simpa using h1, h2⟩
theorem rs_at {vs : List V} {ds : List α} (h : Rs ra F vs ds) {i : Int} {d : α} (e : ixG ds i = some d) : ∃ v, atI vs i = some v ∧ ra.r F v d := by
  unfold ixG atI at e
  unfold atI
  rw [h.length]
  cases q : ixN ds.length i with
  | none => rw [q] at e; cases e
  | some j => rw [q] at e; exact rs_get h e
theorem Rs.append {vs ws : List V} {ds es : List α} (h : Rs ra F vs ds) (g : Rs ra F ws es) : Rs ra F (vs ++ ws) (ds ++ es) := by
  induction h with
  | nil => exact g
  | cons r t ih => exact .cons r ih
theorem Rs.take {vs : List V} {ds : List α} (n : Nat) (h : Rs ra F vs ds) : Rs ra F (vs.take n) (ds.take n) := by
  induction h generalizing n with
  | nil => rw [List.take_nil, List.take_nil]; exact .nil
  | cons r t ih => cases n with
    | zero => exact .nil
    | succ n => exact .cons r (ih n)
theorem Rs.drop {vs : List V} {ds : List α} (n : Nat) (h : Rs ra F vs ds) : Rs ra F (vs.drop n) (ds.drop n) := by
  induction h generalizing n with
  | nil => rw [List.drop_nil, List.drop_nil]; exact .nil
  | cons r t ih => cases n with
    | zero => exact .cons r t
    | succ n => exact ih n
theorem Rs.set {vs : List V} {ds : List α} {v : V} {d : α} (n : Nat) (h : Rs ra F vs ds) (r : ra.r F v d) : Rs ra F (vs.set n v) (ds.set n d) := by
  induction h generalizing n with
  | nil => exact .nil
  | cons r' t ih => cases n with
    | zero => exact .cons r t
    | succ n => exact .cons r' (ih n)
theorem Rs.snoc {vs : List V} {ds : List α} {v : V} {d : α} (h : Rs ra F vs ds) (r : ra.r F v d) : Rs ra F (vs ++ [v]) (ds ++ [d]) := h.append (.cons r .nil)
theorem Rs.rep {vs : List V} {ds : List α} (h : Rs ra F vs ds) : ∀ n, Rs ra F (List.replicate n vs).flatten (List.replicate n ds).flatten
  | 0 => .nil
  | n + 1 => by
    rw [List.replicate_succ, List.replicate_succ, List.flatten_cons, List.flatten_cons]
    exact h.append (Rs.rep h n)
theorem Rs.cut {vs : List V} {ds : List α} (h : Rs ra F vs ds) (lo hi : Option Int) : Rs ra F (cutV vs lo hi) (cut ds lo hi) := by
  unfold cutV Mw.cut
  rw [h.length]
  exact (h.drop _).take _
theorem rs_int : ∀ {vs : List V} {ns : List Int}, Rs rInt F vs ns → vs = ns.map V.int
  | _, _, .nil => rfl
  | _, _, .cons r t => by cases r; rw [List.map_cons, rs_int t]
theorem int_rs : ∀ {ns : List Int}, Rs rInt F (ns.map V.int) ns
  | [] => .nil
  | _ :: _ => .cons rfl int_rs
/-! what is done with a list -/
theorem el_ix (ha : EL K ra ta σ F cs ma) {mi : Option Int} (hb : EM rInt tb σ F cs mi) : EM ra (tOp (rIxL K) ta tb) σ F cs (o2 ixG ma mi) := fun d q c F1 H e k Q hQ => by
  obtain ⟨a, b, q1, q2, q3⟩ := o2_some q
  refine ha a q1 c F1 H e k _ fun x F2 H2 e2 k2 r2 => hb b q2 c F2 H2 (e.trans e2) k2 _ fun y F3 H3 e3 k3 r3 => ?_
  cases r3
  obtain ⟨p, vs, rfl, h1, h2⟩ := (r2.up e3).see k3
  obtain ⟨v, h3, h4⟩ := rs_at h2 q3
  exact ⟨p, vs, b, v, rfl, rfl, h1, h3, hQ v F3 H3 (e2.trans e3) k3 h4⟩
theorem el_len (ha : EL K ra ta σ F cs ma) : EM rInt (tCB (fun xs H Q => ∃ p ys, xs = [.ref p] ∧ (SqL K H p ys ∨ SqT K H p ys) ∧ Q (.int ys.length) H) (tCons ta tNil)) σ F cs (o1 lenG ma) := fun d q c F1 H e k Q hQ => by
  obtain ⟨a, q1, q3⟩ := o1_some q
  cases q3
  refine ha a q1 c F1 H e k _ fun x F2 H2 e2 k2 r2 => ?_
  obtain ⟨p, vs, rfl, h1, h2⟩ := r2.see k2
  exact ⟨p, vs, rfl, .inl h1, hQ _ F2 H2 e2 k2 (by rw [h2.length] <;> rfl)⟩
theorem et_len {m : Option (List α)} (ha : EM (rTup K ra) ta σ F cs m) : EM rInt (tCB (fun xs H Q => ∃ p ys, xs = [.ref p] ∧ (SqL K H p ys ∨ SqT K H p ys) ∧ Q (.int ys.length) H) (tCons ta tNil)) σ F cs (o1 lenG m) := fun d q c F1 H e k Q hQ => by
  obtain ⟨a, q1, q3⟩ := o1_some q
  cases q3
  refine ha a q1 c F1 H e k _ fun x F2 H2 e2 k2 r2 => ?_
  obtain ⟨p, vs, rfl, h1, h2⟩ := r2
  exact ⟨p, vs, rfl, .inr (ext_ k2.ex h1), hQ _ F2 H2 e2 k2 (by rw [h2.length] <;> rfl)⟩
theorem et_ix {m : Option (List α)} (ha : EM (rTup K ra) ta σ F cs m) {mi : Option Int} (hb : EM rInt tb σ F cs mi) : EM ra (tOp (rIxT K) ta tb) σ F cs (o2 ixG m mi) := fun d q c F1 H e k Q hQ => by
  obtain ⟨a, b, q1, q2, q3⟩ := o2_some q
  refine ha a q1 c F1 H e k _ fun x F2 H2 e2 k2 r2 => hb b q2 c F2 H2 (e.trans e2) k2 _ fun y F3 H3 e3 k3 r3 => ?_
  cases r3
  obtain ⟨p, vs, rfl, h1, h2⟩ := (rTup K ra).up e3 r2
  obtain ⟨v, h3, h4⟩ := rs_at h2 q3
  exact ⟨p, vs, b, v, rfl, rfl, ext_ k3.ex h1, h3, hQ v F3 H3 (e2.trans e3) k3 h4⟩
/-- tuple(xs) of a list -/
theorem el_tuple (ha : EL K ra ta σ F cs ma) : EM (rTup K ra) (tCB (fun xs H Q => ∃ p ys, xs = [.ref p] ∧ ((SqL K H p ys ∧ ∀ l, H l = none → Q (.ref l) (upd H l (.tup ys))) ∨ (SqT K H p ys ∧ Q (.ref p) H))) (tCons ta tNil)) σ F cs ma := fun d q c F1 H e k Q hQ => by
  refine ha d q c F1 H e k _ fun x F2 H2 e2 k2 r2 => ?_
  obtain ⟨p, vs, rfl, h1, h2⟩ := r2.see k2
  exact ⟨p, vs, rfl, .inl ⟨h1, fun l hl => hQ (.ref l) _ _ (e2.trans (Ex.new (k2.fnone hl))) (k2.lay hl) ⟨l, vs, rfl, upd_same, Rs.up (Ex.new (k2.fnone hl)) h2⟩⟩⟩
/-- list(xs) -/
theorem ef_list (ha : EL K ra ta σ F cs ma) : EF ra (tCB (fun xs H Q => ∃ p ys, xs = [.ref p] ∧ (SqL K H p ys ∨ SqT K H p ys) ∧ ∀ l, H l = none → Q (.ref l) (upd H l (.lst ys))) (tCons ta tNil)) σ F cs ma := fun d q c F1 H e k Q hQ => by
  refine ha d q c F1 H e k _ fun x F2 H2 e2 k2 r2 => ?_
  obtain ⟨p, vs, rfl, h1, h2⟩ := r2.see k2
  exact ⟨p, vs, rfl, .inl h1, fun l hl => hQ l F2 _ e2 (k2.own hl ⟨vs, rfl, h2⟩) (k2.dom l hl)⟩
/-- parts of a slice -/
def EO (to : TO) (σ : L2.St) (F : Hp) (cs : Cs) (m : Option (Option Int)) : Prop := ∀ d, m = some d → ∀ c F1 H, Ex F F1 → Cov c F1 cs H → ∀ Q : Option Int → Hp → Prop, (∀ F2 H2, Ex F1 F2 → Cov c F2 cs H2 → Q d H2) → to σ H Q
theorem eo_none : EO tNoPart σ F cs (some none) := fun d q c F1 H e k Q hQ => by cases q; exact hQ F1 H (Evl.Ex.refl _) k
theorem eo_some {m : Option Int} (h : EM rInt te σ F cs m) : EO (tPart te) σ F cs (m.map some) := fun d q c F1 H e k Q hQ => by
  cases m with
  | none => cases q
  | some i =>
    cases q
    exact h i rfl c F1 H e k _ fun v F2 H2 e2 k2 r2 => ⟨i, r2, hQ F2 H2 e2 k2⟩
def oCut {α : Type} (m : Option (List α)) (lo hi : Option (Option Int)) : Option (List α) := m.bind fun l => lo.bind fun a => hi.bind fun b => some (cut l a b)
theorem oCut_some {α : Type} {m : Option (List α)} {lo hi : Option (Option Int)} {d : List α} (h : oCut m lo hi = some d) : ∃ l a b, m = some l ∧ lo = some a ∧ hi = some b ∧ d = cut l a b := by
  obtain ⟨l, h1, h⟩ := bind_some h
  obtain ⟨a, h2, h⟩ := bind_some h
  obtain ⟨b, h3, h⟩ := bind_some h
  cases h
  exact ⟨l, a, b, h1, h2, h3, rfl⟩
theorem ef_slice {tl th : TO} {lo hi : Option (Option Int)} (ha : EL K ra ta σ F cs ma) (h1 : EO tl σ F cs lo) (h2 : EO th σ F cs hi) : EF ra (tSl (rSlL K) ta tl th) σ F cs (oCut ma lo hi) := fun d q c F1 H e k Q hQ => by
  obtain ⟨l, a, b, q1, q2, q3, rfl⟩ := oCut_some q
  refine ha l q1 c F1 H e k _ fun x F2 H2 e2 k2 r2 => h1 a q2 c F2 H2 (e.trans e2) k2 _ fun F3 H3 e3 k3 => h2 b q3 c F3 H3 ((e.trans e2).trans e3) k3 _ fun F4 H4 e4 k4 => ?_
  obtain ⟨p, vs, rfl, h1, h2⟩ := (r2.up (e3.trans e4)).see k4
  exact ⟨p, vs, rfl, h1, fun l hl => hQ l F4 _ ((e2.trans e3).trans e4) (k4.own hl ⟨_, rfl, h2.cut a b⟩) (k4.dom l hl)⟩
/-! lists that are the call's own: frozen or cells -/
def LS {α : Type} (ra : Rp α) (cs : Cs) (F : Hp) (v : V) (ds : List α) : Prop := (rLst ra).r F v ds ∨ ∃ p, v = .ref p ∧ (p, cLst ra ds) ∈ cs
def ES {α : Type} (ra : Rp α) (te : TE) (σ : L2.St) (F : Hp) (cs : Cs) (m : Option (List α)) : Prop := ∀ d, m = some d → ∀ c F1 H, Ex F F1 → Cov c F1 cs H → ∀ Q : VK, (∀ v F2 H2, Ex F1 F2 → Cov c F2 cs H2 → LS ra cs F2 v d → Q v H2) → te σ H Q
theorem LS.up (h : LS ra cs F v ds) (e : Ex F F') : LS ra cs F' v ds := h.imp ((rLst ra).up e) fun q => q
theorem LS.see (h : LS ra cs F v ds) (k : Cov c F cs H) : ∃ a vs, v = .ref a ∧ H a = some (.lst vs) ∧ Rs ra F vs ds := by
  rcases h with ⟨a, vs, h1, h2, h3⟩ | ⟨p, h1, h2⟩
  · exact ⟨a, vs, h1, k.ex _ _ h2, h3⟩
  · obtain ⟨_, _, o, h3, vs, rfl, h4⟩ := k.cell _ h2
    exact ⟨p, vs, h1, h3, h4⟩
theorem EM.es (h : EM (rLst ra) te σ F cs ma) : ES ra te σ F cs ma := fun d q c F1 H e k Q hQ => h d q c F1 H e k Q fun v F2 H2 e2 k2 r2 => hQ v F2 H2 e2 k2 (.inl r2)
theorem catG_some {a b d : List α} (h : catG a b = some d) : d = a ++ b ∧ a.length + b.length ≤ 16000000 := by
  unfold catG at h
  split at h
  · cases h; exact ⟨rfl, by assumption⟩
  · cases h
theorem ef_cat {m1 m2 : Option (List α)} (ha : ES ra ta σ F cs m1) (hb : ES ra tb σ F cs m2) : EF ra (tOp rCat ta tb) σ F cs (o2 catG m1 m2) := fun d q c F1 H e k Q hQ => by
  obtain ⟨a, b, q1, q2, q3⟩ := o2_some q
  obtain ⟨rfl, hz⟩ := catG_some q3
  refine ha a q1 c F1 H e k _ fun x F2 H2 e2 k2 r2 => hb b q2 c F2 H2 (e.trans e2) k2 _ fun y F3 H3 e3 k3 r3 => ?_
  obtain ⟨p, vs, rfl, h1, h2⟩ := (r2.up e3).see k3
  obtain ⟨p', ws, rfl, h1', h2'⟩ := r3.see k3
  exact ⟨p, p', vs, ws, rfl, rfl, h1, h1', sz_ok (by rw [h2.length, h2'.length]; exact hz), fun l hl => hQ l F3 _ (e2.trans e3) (k3.own hl ⟨_, rfl, h2.append h2'⟩) (k3.dom l hl)⟩
theorem repG_some {a d : List α} {n : Int} (h : repG a n = some d) : d = (List.replicate n.toNat a).flatten ∧ -(2 ^ 63) ≤ n ∧ n < 2 ^ 20 ∧ a.length ≤ 15 := by
  unfold repG at h
  split at h
  · rename_i q
    cases h; exact ⟨rfl, q⟩
  · cases h
theorem ef_rep {m1 : Option (List α)} {mi : Option Int} (ha : ES ra ta σ F cs m1) (hb : EM rInt tb σ F cs mi) : EF ra (tOp rRep ta tb) σ F cs (o2 repG m1 mi) := fun d q c F1 H e k Q hQ => by
  obtain ⟨a, b, q1, q2, q3⟩ := o2_some q
  obtain ⟨rfl, g, hz, hl⟩ := repG_some q3
  refine ha a q1 c F1 H e k _ fun x F2 H2 e2 k2 r2 => hb b q2 c F2 H2 (e.trans e2) k2 _ fun y F3 H3 e3 k3 r3 => ?_
  cases r3
  obtain ⟨p, vs, rfl, h1, h2⟩ := (r2.up e3).see k3
  refine ⟨p, b, vs, rfl, rfl, h1, g, by omega, ?_, fun l hl => hQ l F3 _ (e2.trans e3) (k3.own hl ⟨_, rfl, h2.rep _⟩) (k3.dom l hl)⟩
  rw [h2.length]
  have z : a.length * b.toNat ≤ 15 * 2 ^ 20 := Nat.mul_le_mul hl (by omega)
  exact sz_ok (by omega)
end
end Mw

set_option maxHeartbeats 2000000
namespace Mw
open PySem L2
open Evl (Ex)
/-! ### S: what an expression computes while it changes a cell -/
def SM {α γ : Type} (ra : Rp α) (te : TE) (σ : L2.St) (F : Hp) (cs : Cs) (m : Option (α × γ)) (cs' : γ → Cs) : Prop := ∀ d g, m = some (d, g) → ∀ c F1 H, Ex F F1 → Cov c F1 cs H → ∀ Q : VK, (∀ v F2 H2, Ex F1 F2 → Cov c F2 (cs' g) H2 → ra.r F2 v d → Q v H2) → te σ H Q
def SF {α γ : Type} (ra : Rp α) (te : TE) (σ : L2.St) (F : Hp) (cs : Cs) (m : Option (List α × γ)) (cs' : γ → Cs) : Prop := ∀ d g, m = some (d, g) → ∀ c F1 H, Ex F F1 → Cov c F1 cs H → ∀ Q : VK, (∀ p F2 H2, Ex F1 F2 → Cov c F2 (cs' g ++ [(p, cLst ra d)]) H2 → c.H0 p = none → Q (.ref p) H2) → te σ H Q
def SA {α γ : Type} (ra : Rp α) (ta : TA) (σ : L2.St) (F : Hp) (cs : Cs) (m : Option (List α × γ)) (cs' : γ → Cs) : Prop := ∀ d g, m = some (d, g) → ∀ c F1 H, Ex F F1 → Cov c F1 cs H → ∀ Q : List V → Hp → Prop, (∀ vs F2 H2, Ex F1 F2 → Cov c F2 (cs' g) H2 → Rs ra F2 vs d → Q vs H2) → ta σ H Q
def ST {γ : Type} (tt : TT) (σ : L2.St) (F : Hp) (cs : Cs) (m : Option (Bool × γ)) (cs' : γ → Cs) : Prop := ∀ d g, m = some (d, g) → ∀ c F1 H, Ex F F1 → Cov c F1 cs H → ∀ Q : Bool → Hp → Prop, (∀ F2 H2, Ex F1 F2 → Cov c F2 (cs' g) H2 → Q d H2) → tt σ H Q
def sP {α γ : Type} (m : Option α) (s : γ) : Option (α × γ) := m.bind fun x => some (x, s)
theorem sP_some {α γ : Type} {m : Option α} {s g : γ} {d : α} (h : sP m s = some (d, g)) : m = some d ∧ g = s := by
  cases m with
  | none => cases h
  | some x => cases h; exact ⟨rfl, rfl⟩
def sC {α γ : Type} (x : Option (α × γ)) (f : α → γ → Option (β × γ)) : Option (β × γ) := x.bind fun p => f p.1 p.2
theorem sC_some {α β γ : Type} {x : Option (α × γ)} {f : α → γ → Option (β × γ)} {d : β × γ} (h : sC x f = some d) : ∃ a g, x = some (a, g) ∧ f a g = some d := by
  cases x with
  | none => cases h
  | some p => exact ⟨p.1, p.2, rfl, h⟩
/-- a part's outcome, then what is kept of the state -/
def sK {α γ : Type} (s : γ) (m : Option α) : Option (α × γ) := m.bind fun x => some (x, s)

def s1 {α1 ρ γ : Type} (f : α1 → γ → Option (ρ × γ)) (m1 : Option (α1 × γ)) : Option (ρ × γ) := sC (m1) fun a1 s1 => f a1 s1
def Psp1 {α1 ρ : Type} (r1 : Rp α1) (rr : Rp ρ) (m : α1 → Option (ρ)) : Sp := fun vs H Q _ => ∃ (F : Hp) (v1 : V) (a1 : α1) (d : ρ), vs = [v1] ∧ Ex F H ∧ r1.r F v1 a1 ∧ m a1 = some d ∧ ∀ v F2 H2, Cov ⟨H, F, []⟩ F2 [] H2 → rr.r F2 v d → Q v H2
theorem Psp1_len {α1 ρ : Type} {r1 : Rp α1} {rr : Rp ρ} {m : α1 → Option (ρ)} {vs : List V} {H : Hp} {Q : VK} {E : XK} (h : Psp1 r1 rr m vs H Q E) : vs.length = 1 := by
  obtain ⟨_, _, _, _, rfl, _⟩ := h
  rfl
def Fsp1 {α1 ρ : Type} (r1 : Rp α1) (rr : Rp ρ) (m : α1 → Option (List ρ)) : Sp := fun vs H Q _ => ∃ (F : Hp) (v1 : V) (a1 : α1) (d : List ρ), vs = [v1] ∧ Ex F H ∧ r1.r F v1 a1 ∧ m a1 = some d ∧ ∀ p F2 H2, Cov ⟨H, F, []⟩ F2 [(p, cLst rr d)] H2 → Q (.ref p) H2
theorem Fsp1_len {α1 ρ : Type} {r1 : Rp α1} {rr : Rp ρ} {m : α1 → Option (List ρ)} {vs : List V} {H : Hp} {Q : VK} {E : XK} (h : Fsp1 r1 rr m vs H Q E) : vs.length = 1 := by
  obtain ⟨_, _, _, _, rfl, _⟩ := h
  rfl
def MPsp1 {α1 ρ γ : Type} (cell : γ → Cp) (r1 : Rp α1) (rr : Rp ρ) (m : γ → α1 → Option (ρ × γ)) : Sp := fun vs H Q _ => ∃ (F : Hp) (p : Addr) (v1 : V) (s : γ) (a1 : α1) (d : ρ) (s2 : γ), vs = [.ref p, v1] ∧ Cov ⟨H, F, [p]⟩ F [(p, cell s)] H ∧ r1.r F v1 a1 ∧ m s a1 = some (d, s2) ∧ ∀ v F2 H2, Cov ⟨H, F, [p]⟩ F2 [(p, cell s2)] H2 → rr.r F2 v d → Q v H2
theorem MPsp1_len {α1 ρ γ : Type} {cell : γ → Cp} {r1 : Rp α1} {rr : Rp ρ} {m : γ → α1 → Option (ρ × γ)} {vs : List V} {H : Hp} {Q : VK} {E : XK} (h : MPsp1 cell r1 rr m vs H Q E) : vs.length = 2 := by
  obtain ⟨_, _, _, _, _, _, _, rfl, _⟩ := h
  rfl
def s2 {α1 α2 ρ γ : Type} (f : α1 → α2 → γ → Option (ρ × γ)) (m1 : Option (α1 × γ)) (m2 : γ → Option (α2 × γ)) : Option (ρ × γ) := sC (m1) fun a1 s1 => sC (m2 s1) fun a2 s2 => f a1 a2 s2
def Psp2 {α1 α2 ρ : Type} (r1 : Rp α1) (r2 : Rp α2) (rr : Rp ρ) (m : α1 → α2 → Option (ρ)) : Sp := fun vs H Q _ => ∃ (F : Hp) (v1 v2 : V) (a1 : α1) (a2 : α2) (d : ρ), vs = [v1, v2] ∧ Ex F H ∧ r1.r F v1 a1 ∧ r2.r F v2 a2 ∧ m a1 a2 = some d ∧ ∀ v F2 H2, Cov ⟨H, F, []⟩ F2 [] H2 → rr.r F2 v d → Q v H2
theorem Psp2_len {α1 α2 ρ : Type} {r1 : Rp α1} {r2 : Rp α2} {rr : Rp ρ} {m : α1 → α2 → Option (ρ)} {vs : List V} {H : Hp} {Q : VK} {E : XK} (h : Psp2 r1 r2 rr m vs H Q E) : vs.length = 2 := by
  obtain ⟨_, _, _, _, _, _, rfl, _⟩ := h
  rfl
def Fsp2 {α1 α2 ρ : Type} (r1 : Rp α1) (r2 : Rp α2) (rr : Rp ρ) (m : α1 → α2 → Option (List ρ)) : Sp := fun vs H Q _ => ∃ (F : Hp) (v1 v2 : V) (a1 : α1) (a2 : α2) (d : List ρ), vs = [v1, v2] ∧ Ex F H ∧ r1.r F v1 a1 ∧ r2.r F v2 a2 ∧ m a1 a2 = some d ∧ ∀ p F2 H2, Cov ⟨H, F, []⟩ F2 [(p, cLst rr d)] H2 → Q (.ref p) H2
theorem Fsp2_len {α1 α2 ρ : Type} {r1 : Rp α1} {r2 : Rp α2} {rr : Rp ρ} {m : α1 → α2 → Option (List ρ)} {vs : List V} {H : Hp} {Q : VK} {E : XK} (h : Fsp2 r1 r2 rr m vs H Q E) : vs.length = 2 := by
  obtain ⟨_, _, _, _, _, _, rfl, _⟩ := h
  rfl
def MPsp2 {α1 α2 ρ γ : Type} (cell : γ → Cp) (r1 : Rp α1) (r2 : Rp α2) (rr : Rp ρ) (m : γ → α1 → α2 → Option (ρ × γ)) : Sp := fun vs H Q _ => ∃ (F : Hp) (p : Addr) (v1 v2 : V) (s : γ) (a1 : α1) (a2 : α2) (d : ρ) (s2 : γ), vs = [.ref p, v1, v2] ∧ Cov ⟨H, F, [p]⟩ F [(p, cell s)] H ∧ r1.r F v1 a1 ∧ r2.r F v2 a2 ∧ m s a1 a2 = some (d, s2) ∧ ∀ v F2 H2, Cov ⟨H, F, [p]⟩ F2 [(p, cell s2)] H2 → rr.r F2 v d → Q v H2
theorem MPsp2_len {α1 α2 ρ γ : Type} {cell : γ → Cp} {r1 : Rp α1} {r2 : Rp α2} {rr : Rp ρ} {m : γ → α1 → α2 → Option (ρ × γ)} {vs : List V} {H : Hp} {Q : VK} {E : XK} (h : MPsp2 cell r1 r2 rr m vs H Q E) : vs.length = 3 := by
  obtain ⟨_, _, _, _, _, _, _, _, _, rfl, _⟩ := h
  rfl
def o3 {α1 α2 α3 ρ : Type} (f : α1 → α2 → α3 → Option ρ) (m1 : Option α1) (m2 : Option α2) (m3 : Option α3) : Option ρ := m1.bind fun a1 => m2.bind fun a2 => m3.bind fun a3 => f a1 a2 a3
theorem o3_some {α1 α2 α3 ρ : Type} {f : α1 → α2 → α3 → Option ρ} {m1 : Option α1} {m2 : Option α2} {m3 : Option α3} {d : ρ} (h : o3 f m1 m2 m3 = some d) : ∃ a1 a2 a3, m1 = some a1 ∧ m2 = some a2 ∧ m3 = some a3 ∧ f a1 a2 a3 = some d := by
  obtain ⟨a1, q1, h⟩ := bind_some h
  obtain ⟨a2, q2, h⟩ := bind_some h
  obtain ⟨a3, q3, h⟩ := bind_some h
  exact ⟨a1, a2, a3, q1, q2, q3, h⟩
def s3 {α1 α2 α3 ρ γ : Type} (f : α1 → α2 → α3 → γ → Option (ρ × γ)) (m1 : Option (α1 × γ)) (m2 : γ → Option (α2 × γ)) (m3 : γ → Option (α3 × γ)) : Option (ρ × γ) := sC (m1) fun a1 s1 => sC (m2 s1) fun a2 s2 => sC (m3 s2) fun a3 s3 => f a1 a2 a3 s3
def MPsp3 {α1 α2 α3 ρ γ : Type} (cell : γ → Cp) (r1 : Rp α1) (r2 : Rp α2) (r3 : Rp α3) (rr : Rp ρ) (m : γ → α1 → α2 → α3 → Option (ρ × γ)) : Sp := fun vs H Q _ => ∃ (F : Hp) (p : Addr) (v1 v2 v3 : V) (s : γ) (a1 : α1) (a2 : α2) (a3 : α3) (d : ρ) (s2 : γ), vs = [.ref p, v1, v2, v3] ∧ Cov ⟨H, F, [p]⟩ F [(p, cell s)] H ∧ r1.r F v1 a1 ∧ r2.r F v2 a2 ∧ r3.r F v3 a3 ∧ m s a1 a2 a3 = some (d, s2) ∧ ∀ v F2 H2, Cov ⟨H, F, [p]⟩ F2 [(p, cell s2)] H2 → rr.r F2 v d → Q v H2
theorem MPsp3_len {α1 α2 α3 ρ γ : Type} {cell : γ → Cp} {r1 : Rp α1} {r2 : Rp α2} {r3 : Rp α3} {rr : Rp ρ} {m : γ → α1 → α2 → α3 → Option (ρ × γ)} {vs : List V} {H : Hp} {Q : VK} {E : XK} (h : MPsp3 cell r1 r2 r3 rr m vs H Q E) : vs.length = 4 := by
  obtain ⟨_, _, _, _, _, _, _, _, _, _, _, rfl, _⟩ := h
  rfl
def o4 {α1 α2 α3 α4 ρ : Type} (f : α1 → α2 → α3 → α4 → Option ρ) (m1 : Option α1) (m2 : Option α2) (m3 : Option α3) (m4 : Option α4) : Option ρ := m1.bind fun a1 => m2.bind fun a2 => m3.bind fun a3 => m4.bind fun a4 => f a1 a2 a3 a4
theorem o4_some {α1 α2 α3 α4 ρ : Type} {f : α1 → α2 → α3 → α4 → Option ρ} {m1 : Option α1} {m2 : Option α2} {m3 : Option α3} {m4 : Option α4} {d : ρ} (h : o4 f m1 m2 m3 m4 = some d) : ∃ a1 a2 a3 a4, m1 = some a1 ∧ m2 = some a2 ∧ m3 = some a3 ∧ m4 = some a4 ∧ f a1 a2 a3 a4 = some d := by
  obtain ⟨a1, q1, h⟩ := bind_some h
  obtain ⟨a2, q2, h⟩ := bind_some h
  obtain ⟨a3, q3, h⟩ := bind_some h
  obtain ⟨a4, q4, h⟩ := bind_some h
  exact ⟨a1, a2, a3, a4, q1, q2, q3, q4, h⟩
def s4 {α1 α2 α3 α4 ρ γ : Type} (f : α1 → α2 → α3 → α4 → γ → Option (ρ × γ)) (m1 : Option (α1 × γ)) (m2 : γ → Option (α2 × γ)) (m3 : γ → Option (α3 × γ)) (m4 : γ → Option (α4 × γ)) : Option (ρ × γ) := sC (m1) fun a1 s1 => sC (m2 s1) fun a2 s2 => sC (m3 s2) fun a3 s3 => sC (m4 s3) fun a4 s4 => f a1 a2 a3 a4 s4
def Psp4 {α1 α2 α3 α4 ρ : Type} (r1 : Rp α1) (r2 : Rp α2) (r3 : Rp α3) (r4 : Rp α4) (rr : Rp ρ) (m : α1 → α2 → α3 → α4 → Option (ρ)) : Sp := fun vs H Q _ => ∃ (F : Hp) (v1 v2 v3 v4 : V) (a1 : α1) (a2 : α2) (a3 : α3) (a4 : α4) (d : ρ), vs = [v1, v2, v3, v4] ∧ Ex F H ∧ r1.r F v1 a1 ∧ r2.r F v2 a2 ∧ r3.r F v3 a3 ∧ r4.r F v4 a4 ∧ m a1 a2 a3 a4 = some d ∧ ∀ v F2 H2, Cov ⟨H, F, []⟩ F2 [] H2 → rr.r F2 v d → Q v H2
theorem Psp4_len {α1 α2 α3 α4 ρ : Type} {r1 : Rp α1} {r2 : Rp α2} {r3 : Rp α3} {r4 : Rp α4} {rr : Rp ρ} {m : α1 → α2 → α3 → α4 → Option (ρ)} {vs : List V} {H : Hp} {Q : VK} {E : XK} (h : Psp4 r1 r2 r3 r4 rr m vs H Q E) : vs.length = 4 := by
  obtain ⟨_, _, _, _, _, _, _, _, _, _, rfl, _⟩ := h
  rfl
def s5 {α1 α2 α3 α4 α5 ρ γ : Type} (f : α1 → α2 → α3 → α4 → α5 → γ → Option (ρ × γ)) (m1 : Option (α1 × γ)) (m2 : γ → Option (α2 × γ)) (m3 : γ → Option (α3 × γ)) (m4 : γ → Option (α4 × γ)) (m5 : γ → Option (α5 × γ)) : Option (ρ × γ) := sC (m1) fun a1 s1 => sC (m2 s1) fun a2 s2 => sC (m3 s2) fun a3 s3 => sC (m4 s3) fun a4 s4 => sC (m5 s4) fun a5 s5 => f a1 a2 a3 a4 a5 s5
def s6 {α1 α2 α3 α4 α5 α6 ρ γ : Type} (f : α1 → α2 → α3 → α4 → α5 → α6 → γ → Option (ρ × γ)) (m1 : Option (α1 × γ)) (m2 : γ → Option (α2 × γ)) (m3 : γ → Option (α3 × γ)) (m4 : γ → Option (α4 × γ)) (m5 : γ → Option (α5 × γ)) (m6 : γ → Option (α6 × γ)) : Option (ρ × γ) := sC (m1) fun a1 s1 => sC (m2 s1) fun a2 s2 => sC (m3 s2) fun a3 s3 => sC (m4 s3) fun a4 s4 => sC (m5 s4) fun a5 s5 => sC (m6 s5) fun a6 s6 => f a1 a2 a3 a4 a5 a6 s6
def MPsp0 {ρ γ : Type} (cell : γ → Cp) (rr : Rp ρ) (m : γ → Option (ρ × γ)) : Sp := fun vs H Q _ => ∃ (F : Hp) (p : Addr) (s : γ) (d : ρ) (s2 : γ), vs = [.ref p] ∧ Cov ⟨H, F, [p]⟩ F [(p, cell s)] H ∧ m s = some (d, s2) ∧ ∀ v F2 H2, Cov ⟨H, F, [p]⟩ F2 [(p, cell s2)] H2 → rr.r F2 v d → Q v H2
theorem MPsp0_len {ρ γ : Type} {cell : γ → Cp} {rr : Rp ρ} {m : γ → Option (ρ × γ)} {vs : List V} {H : Hp} {Q : VK} {E : XK} (h : MPsp0 cell rr m vs H Q E) : vs.length = 1 := by
  obtain ⟨_, _, _, _, _, rfl, _⟩ := h
  rfl
section
variable {σ : L2.St} {F : Hp} {cs : Cs}
theorem em_Pcall1 {α1 ρ : Type} {r1 : Rp α1} {rr : Rp ρ} {E : XK} {t1 : TE} {m : α1 → Option (ρ)} {m1 : Option α1} (h1 : EM r1 t1 σ F cs m1) : EM rr (tCall (Psp1 r1 rr m) [] E (tCons t1 tNil)) σ F cs (o1 m m1) := fun d q c F0 H0 e0 k0 Q hQ => by
  obtain ⟨a1, q1, q⟩ := o1_some q
  refine h1 a1 q1 c F0 H0 e0 k0 _ fun v1 F1 H1 e1 k1 x1 => ?_
  have f1 := e0.trans e1
  exact ⟨F1, v1, a1, d, rfl, k1.ex, x1, q, fun v F9 H9 k9 r9 => hQ v F9 H9 ((e1).trans k9.fz) (k1.call0 k9) r9⟩
theorem em_Pcall2 {α1 α2 ρ : Type} {r1 : Rp α1} {r2 : Rp α2} {rr : Rp ρ} {E : XK} {t1 t2 : TE} {m : α1 → α2 → Option (ρ)} {m1 : Option α1} {m2 : Option α2} (h1 : EM r1 t1 σ F cs m1) (h2 : EM r2 t2 σ F cs m2) : EM rr (tCall (Psp2 r1 r2 rr m) [] E (tCons t1 (tCons t2 tNil))) σ F cs (o2 m m1 m2) := fun d q c F0 H0 e0 k0 Q hQ => by
  obtain ⟨a1, a2, q1, q2, q⟩ := o2_some q
  refine h1 a1 q1 c F0 H0 e0 k0 _ fun v1 F1 H1 e1 k1 x1 => ?_
  have f1 := e0.trans e1
  refine h2 a2 q2 c F1 H1 f1 k1 _ fun v2 F2 H2 e2 k2 x2 => ?_
  have f2 := f1.trans e2
  exact ⟨F2, v1, v2, a1, a2, d, rfl, k2.ex, r1.up (e2) x1, x2, q, fun v F9 H9 k9 r9 => hQ v F9 H9 (((e1).trans e2).trans k9.fz) (k2.call0 k9) r9⟩
theorem em_Fcall2 {α1 α2 ρ : Type} {r1 : Rp α1} {r2 : Rp α2} {rr : Rp ρ} {E : XK} {t1 t2 : TE} {m : α1 → α2 → Option (List ρ)} {m1 : Option α1} {m2 : Option α2} (h1 : EM r1 t1 σ F cs m1) (h2 : EM r2 t2 σ F cs m2) : EF rr (tCall (Fsp2 r1 r2 rr m) [] E (tCons t1 (tCons t2 tNil))) σ F cs (o2 m m1 m2) := fun d q c F0 H0 e0 k0 Q hQ => by
  obtain ⟨a1, a2, q1, q2, q⟩ := o2_some q
  refine h1 a1 q1 c F0 H0 e0 k0 _ fun v1 F1 H1 e1 k1 x1 => ?_
  have f1 := e0.trans e1
  refine h2 a2 q2 c F1 H1 f1 k1 _ fun v2 F2 H2 e2 k2 x2 => ?_
  have f2 := f1.trans e2
  exact ⟨F2, v1, v2, a1, a2, d, rfl, k2.ex, r1.up (e2) x1, x2, q, fun p F9 H9 k9 => hQ p F9 H9 (((e1).trans e2).trans k9.fz) (k2.call0n k9) (k2.dom p (Or.resolve_left (k9.old_new (p, cLst rr d) List.mem_cons_self) List.not_mem_nil))⟩
theorem em_Pcall4 {α1 α2 α3 α4 ρ : Type} {r1 : Rp α1} {r2 : Rp α2} {r3 : Rp α3} {r4 : Rp α4} {rr : Rp ρ} {E : XK} {t1 t2 t3 t4 : TE} {m : α1 → α2 → α3 → α4 → Option (ρ)} {m1 : Option α1} {m2 : Option α2} {m3 : Option α3} {m4 : Option α4} (h1 : EM r1 t1 σ F cs m1) (h2 : EM r2 t2 σ F cs m2) (h3 : EM r3 t3 σ F cs m3) (h4 : EM r4 t4 σ F cs m4) : EM rr (tCall (Psp4 r1 r2 r3 r4 rr m) [] E (tCons t1 (tCons t2 (tCons t3 (tCons t4 tNil))))) σ F cs (o4 m m1 m2 m3 m4) := fun d q c F0 H0 e0 k0 Q hQ => by
  obtain ⟨a1, a2, a3, a4, q1, q2, q3, q4, q⟩ := o4_some q
  refine h1 a1 q1 c F0 H0 e0 k0 _ fun v1 F1 H1 e1 k1 x1 => ?_
  have f1 := e0.trans e1
  refine h2 a2 q2 c F1 H1 f1 k1 _ fun v2 F2 H2 e2 k2 x2 => ?_
  have f2 := f1.trans e2
  refine h3 a3 q3 c F2 H2 f2 k2 _ fun v3 F3 H3 e3 k3 x3 => ?_
  have f3 := f2.trans e3
  refine h4 a4 q4 c F3 H3 f3 k3 _ fun v4 F4 H4 e4 k4 x4 => ?_
  have f4 := f3.trans e4
  exact ⟨F4, v1, v2, v3, v4, a1, a2, a3, a4, d, rfl, k4.ex, r1.up (((e2).trans e3).trans e4) x1, r2.up ((e3).trans e4) x2, r3.up (e4) x3, x4, q, fun v F9 H9 k9 r9 => hQ v F9 H9 (((((e1).trans e2).trans e3).trans e4).trans k9.fz) (k4.call0 k9) r9⟩
end
section
variable {σ : L2.St} {F : Hp} {γ : Type} {cs : γ → Cs} {s : γ}
theorem sm_Mcall1 {α1 ρ : Type} {r1 : Rp α1} {rr : Rp ρ} {E : XK} {t1 : TE} {cell : γ → Cp} {p : Addr} {i0 j0 : Nat} {m : γ → α1 → Option (ρ × γ)} {m1 : Option (α1 × γ)} (hv : σ[i0]? = some (some (.ref p))) (hi : ∀ s, (cs s)[j0]? = some (p, cell s)) (hz : ∀ s s2, (cs s).set j0 (p, cell s2) = cs s2) (h1 : SM r1 t1 σ F (cs s) (m1) cs) : SM rr (tCall (MPsp1 cell r1 rr m) [] E (tCons (tVar i0) (tCons t1 tNil))) σ F (cs s) (s1 (fun a1 s => m s a1) m1) cs := fun d g q c F0 H0 f0 k0 Q hQ => by
  refine ⟨_, hv, ?_⟩
  unfold s1 at q
  obtain ⟨a1, s1, q1, q⟩ := sC_some q
  refine (h1) a1 s1 q1 c F0 H0 f0 k0 _ fun v1 F1 H1 e1 k1 x1 => ?_
  have f1 := f0.trans e1
  have g1 := e1
  exact ⟨F1, p, v1, s1, a1, d, g, rfl, k1.preAt j0 (hi s1), x1, q, fun v F9 H9 k9 r9 => hQ v F9 H9 (g1.trans k9.fz) (by have z := k1.callAt j0 (hi s1) k9; rw [hz] at z; exact z) r9⟩
theorem sm_Mcall2 {α1 α2 ρ : Type} {r1 : Rp α1} {r2 : Rp α2} {rr : Rp ρ} {E : XK} {t1 t2 : TE} {cell : γ → Cp} {p : Addr} {i0 j0 : Nat} {m : γ → α1 → α2 → Option (ρ × γ)} {m1 : Option (α1 × γ)} {m2 : γ → Option (α2 × γ)} (hv : σ[i0]? = some (some (.ref p))) (hi : ∀ s, (cs s)[j0]? = some (p, cell s)) (hz : ∀ s s2, (cs s).set j0 (p, cell s2) = cs s2) (h1 : SM r1 t1 σ F (cs s) (m1) cs) (h2 : ∀ s, SM r2 t2 σ F (cs s) (m2 s) cs) : SM rr (tCall (MPsp2 cell r1 r2 rr m) [] E (tCons (tVar i0) (tCons t1 (tCons t2 tNil)))) σ F (cs s) (s2 (fun a1 a2 s => m s a1 a2) m1 m2) cs := fun d g q c F0 H0 f0 k0 Q hQ => by
  refine ⟨_, hv, ?_⟩
  unfold s2 at q
  obtain ⟨a1, s1, q1, q⟩ := sC_some q
  obtain ⟨a2, s2, q2, q⟩ := sC_some q
  refine (h1) a1 s1 q1 c F0 H0 f0 k0 _ fun v1 F1 H1 e1 k1 x1 => ?_
  have f1 := f0.trans e1
  have g1 := e1
  refine (h2 s1) a2 s2 q2 c F1 H1 f1 k1 _ fun v2 F2 H2 e2 k2 x2 => ?_
  have f2 := f1.trans e2
  have g2 := g1.trans e2
  exact ⟨F2, p, v1, v2, s2, a1, a2, d, g, rfl, k2.preAt j0 (hi s2), r1.up (e2) x1, x2, q, fun v F9 H9 k9 r9 => hQ v F9 H9 (g2.trans k9.fz) (by have z := k2.callAt j0 (hi s2) k9; rw [hz] at z; exact z) r9⟩
theorem sm_Mcall3 {α1 α2 α3 ρ : Type} {r1 : Rp α1} {r2 : Rp α2} {r3 : Rp α3} {rr : Rp ρ} {E : XK} {t1 t2 t3 : TE} {cell : γ → Cp} {p : Addr} {i0 j0 : Nat} {m : γ → α1 → α2 → α3 → Option (ρ × γ)} {m1 : Option (α1 × γ)} {m2 : γ → Option (α2 × γ)} {m3 : γ → Option (α3 × γ)} (hv : σ[i0]? = some (some (.ref p))) (hi : ∀ s, (cs s)[j0]? = some (p, cell s)) (hz : ∀ s s2, (cs s).set j0 (p, cell s2) = cs s2) (h1 : SM r1 t1 σ F (cs s) (m1) cs) (h2 : ∀ s, SM r2 t2 σ F (cs s) (m2 s) cs) (h3 : ∀ s, SM r3 t3 σ F (cs s) (m3 s) cs) : SM rr (tCall (MPsp3 cell r1 r2 r3 rr m) [] E (tCons (tVar i0) (tCons t1 (tCons t2 (tCons t3 tNil))))) σ F (cs s) (s3 (fun a1 a2 a3 s => m s a1 a2 a3) m1 m2 m3) cs := fun d g q c F0 H0 f0 k0 Q hQ => by
  refine ⟨_, hv, ?_⟩
  unfold s3 at q
  obtain ⟨a1, s1, q1, q⟩ := sC_some q
  obtain ⟨a2, s2, q2, q⟩ := sC_some q
  obtain ⟨a3, s3, q3, q⟩ := sC_some q
  refine (h1) a1 s1 q1 c F0 H0 f0 k0 _ fun v1 F1 H1 e1 k1 x1 => ?_
  have f1 := f0.trans e1
  have g1 := e1
  refine (h2 s1) a2 s2 q2 c F1 H1 f1 k1 _ fun v2 F2 H2 e2 k2 x2 => ?_
  have f2 := f1.trans e2
  have g2 := g1.trans e2
  refine (h3 s2) a3 s3 q3 c F2 H2 f2 k2 _ fun v3 F3 H3 e3 k3 x3 => ?_
  have f3 := f2.trans e3
  have g3 := g2.trans e3
  exact ⟨F3, p, v1, v2, v3, s3, a1, a2, a3, d, g, rfl, k3.preAt j0 (hi s3), r1.up ((e2).trans e3) x1, r2.up (e3) x2, x3, q, fun v F9 H9 k9 r9 => hQ v F9 H9 (g3.trans k9.fz) (by have z := k3.callAt j0 (hi s3) k9; rw [hz] at z; exact z) r9⟩
end
/-- the same with more cells -/
theorem EM.fr {α : Type} {ra : Rp α} {te : TE} {σ : L2.St} {F : Hp} {cs ex : Cs} {m : Option α} (h : EM ra te σ F cs m) : EM ra te σ F (cs ++ ex) m := fun d q c F1 H e k Q hQ => by
  have kk : Cov c F1 cs H := by
    have z := k.keepN cs.length
    rw [List.take_left] at z
    exact z
  exact h d q _ F1 H e kk.base Q fun v F2 H2 e2 k2 r2 => hQ v F2 H2 e2 (k.back k2 (Cov.old_ps k2)) r2
section
variable {σ : L2.St} {F : Hp} {cs : Cs}
theorem em_Tcall0 {α  ρ : Type} {ra : Rp α}  {rr : Rp ρ} {E : XK} {ta  : TE} {m : List α → Option (ρ × List α)} {ma : Option (List α)}  (h : EF ra ta σ F cs ma)  : EM rr (tCall (MPsp0 (fun z => cLst ra z)  rr m) [] E (tCons ta tNil)) σ F cs (ma.bind fun t => (m t ).bind fun r => some r.1) := fun d q c F0 H0 e0 k0 Q hQ => by
  obtain ⟨t, q0, q⟩ := bind_some q
  obtain ⟨r, qr, q⟩ := bind_some q
  cases q
  refine h t q0 c F0 H0 e0 k0 _ fun p G0 J0 g0 k0 n0 => ?_
  have f0 := e0.trans g0
  refine ⟨G0, p, t, r.1, r.2, rfl, k0.preAt cs.length (x := cLst ra t) (by simp), qr, fun v F9 H9 k9 r9 => hQ v F9 H9 (g0.trans k9.fz) ?_ r9⟩
  have z := (k0.callAt cs.length (x := cLst ra t) (by simp) k9).keepN cs.length
  rw [List.set_append_right _ _ (Nat.le_refl _), List.take_left] at z
  exact z
end
end Mw

set_option maxHeartbeats 2000000
namespace Mw
open PySem L2
open Evl (Ex)
/-! ### S: composition -/
section
variable {α β γ ρ : Type} {ra : Rp α} {rb : Rp β} {rc : Rp ρ} {σ : L2.St} {F : Hp} {cs : γ → Cs} {s : γ} {ta tb te : TE} {t u : TT} {K : PySem.W.Frag}
theorem EM.sm {m : Option α} (h : EM ra te σ F (cs s) m) : SM ra te σ F (cs s) (sP m s) cs := fun d g q c F1 H e k Q hQ => by
  obtain ⟨q1, q2⟩ := sP_some q
  subst q2
  exact h d q1 c F1 H e k Q hQ
theorem EF.sf {m : Option (List α)} (h : EF ra te σ F (cs s) m) : SF ra te σ F (cs s) (sP m s) cs := fun d g q c F1 H e k Q hQ => by
  obtain ⟨q1, q2⟩ := sP_some q
  subst q2
  exact h d q1 c F1 H e k Q hQ
theorem ET.st {m : Option Bool} (h : ET t σ F (cs s) m) : ST t σ F (cs s) (sP m s) cs := fun d g q c F1 H e k Q hQ => by
  obtain ⟨q1, q2⟩ := sP_some q
  subst q2
  exact h d q1 c F1 H e k Q hQ
/-- a new list, frozen -/
theorem SF.sm {m : Option (List α × γ)} (h : SF ra te σ F (cs s) m cs) : SM (rLst ra) te σ F (cs s) m cs := fun d g q c F1 H e k Q hQ => by
  refine h d g q c F1 H e k Q fun p F2 H2 e2 k2 n2 => ?_
  obtain ⟨f1, _, o, f3, vs, rfl, f4⟩ := k2.cell (p, cLst ra d) (List.mem_append_right _ List.mem_cons_self)
  exact hQ (.ref p) _ H2 (e2.trans (Ex.new f1)) (k2.toHead.freeze f3 n2 |>.perm (by rw [List.append_nil])) ⟨p, vs, rfl, upd_same, Rs.up (Ex.new f1) f4⟩
theorem sm_op {rd : R2} {g : α → β → Option ρ} (hv : VO rd ra rb rc g) {ma : Option (α × γ)} {mb : γ → Option (β × γ)} (ha : SM ra ta σ F (cs s) ma cs) (hb : ∀ s, SM rb tb σ F (cs s) (mb s) cs) :
    SM rc (tOp rd ta tb) σ F (cs s) (s2 (fun a b s => sK s (g a b)) ma mb) cs := fun d g0 q c F0 H0 f0 k0 Q hQ => by
  unfold s2 at q
  obtain ⟨a, s1, q1, q⟩ := sC_some q
  obtain ⟨b, s2, q2, q⟩ := sC_some q
  obtain ⟨q3, eg⟩ := sP_some q
  subst eg
  refine ha a s1 q1 c F0 H0 f0 k0 _ fun x F2 H2 e2 k2 r2 => hb s1 b _ q2 c F2 H2 (f0.trans e2) k2 _ fun y F3 H3 e3 k3 r3 => hv c F3 _ H3 x y a b d k3 (ra.up e3 r2) r3 q3 Q fun z F4 H4 e4 k4 r4 => hQ z F4 H4 ((e2.trans e3).trans e4) k4 r4
theorem sm_ix {ma : Option (List α × γ)} {mi : γ → Option (Int × γ)} (ha : SM (rLst ra) ta σ F (cs s) ma cs) (hb : ∀ s, SM rInt tb σ F (cs s) (mi s) cs) :
    SM ra (tOp (rIxL K) ta tb) σ F (cs s) (s2 (fun a b s => sK s (ixG a b)) ma mi) cs := fun d g0 q c F0 H0 f0 k0 Q hQ => by
  unfold s2 at q
  obtain ⟨a, s1, q1, q⟩ := sC_some q
  obtain ⟨b, s2, q2, q⟩ := sC_some q
  obtain ⟨q3, eg⟩ := sP_some q
  subst eg
  refine ha a s1 q1 c F0 H0 f0 k0 _ fun x F2 H2 e2 k2 r2 => hb s1 b _ q2 c F2 H2 (f0.trans e2) k2 _ fun y F3 H3 e3 k3 r3 => ?_
  cases r3
  obtain ⟨p, vs, rfl, h1, h2⟩ := (rLst ra).up e3 r2
  obtain ⟨v, h3, h4⟩ := rs_at h2 q3
  exact ⟨p, vs, b, v, rfl, rfl, SqL.of (k3.ex _ _ h1), h3, hQ v F3 H3 (e2.trans e3) k3 h4⟩
def sAnd {γ : Type} (a : Option (Bool × γ)) (b : γ → Option (Bool × γ)) : Option (Bool × γ) := sC a fun x s => if x = true then b s else some (false, s)
def sOr {γ : Type} (a : Option (Bool × γ)) (b : γ → Option (Bool × γ)) : Option (Bool × γ) := sC a fun x s => if x = true then some (true, s) else b s
def sNot {γ : Type} (a : Option (Bool × γ)) : Option (Bool × γ) := sC a fun x s => some (!x, s)
theorem st_test {m : Option (Bool × γ)} (h : SM rBool te σ F (cs s) m cs) : ST (tTest te) σ F (cs s) m cs := fun d g q c F1 H e k Q hQ => h d g q c F1 H e k _ fun v F2 H2 e2 k2 r2 => ⟨d, r2, hQ F2 H2 e2 k2⟩
def sCons {α γ : Type} (a : Option (α × γ)) (l : γ → Option (List α × γ)) : Option (List α × γ) := sC a fun x s => sC (l s) fun r s => some (x :: r, s)
theorem sa_nil : SA ra tNil σ F (cs s) (some ([], s)) cs := fun d g q c F1 H e k Q hQ => by
  cases q
  exact hQ [] F1 H (Evl.Ex.refl _) k .nil
theorem sa_cons {ma : Option (α × γ)} {tr : TA} {l : γ → Option (List α × γ)} (h : SM ra ta σ F (cs s) ma cs) (hr : ∀ s, SA ra tr σ F (cs s) (l s) cs) : SA ra (tCons ta tr) σ F (cs s) (sCons ma l) cs := fun d g q c F1 H e k Q hQ => by
  obtain ⟨a, s1, q1, q⟩ := sC_some q
  obtain ⟨b, s2, q2, q⟩ := sC_some q
  cases q
  exact h a s1 q1 c F1 H e k _ fun v F2 H2 e2 k2 r2 => hr s1 b _ q2 c F2 H2 (e.trans e2) k2 _ fun vs F3 H3 e3 k3 r3 => hQ (v :: vs) F3 H3 (e2.trans e3) k3 (.cons (ra.up e3 r2) r3)
theorem EA.sa {ta : TA} {m : Option (List α)} (h : EA ra ta σ F (cs s) m) : SA ra ta σ F (cs s) (sP m s) cs := fun d g q c F1 H e k Q hQ => by
  obtain ⟨q1, q2⟩ := sP_some q
  subst q2
  exact h d q1 c F1 H e k Q hQ
theorem sf_lst {ta : TA} {l : Option (List α × γ)} (h : SA ra ta σ F (cs s) l cs) : SF ra (tLst ta) σ F (cs s) (s1 (fun a s => sK s (szG a)) l) cs := fun d g q c F1 H e k Q hQ => by
  unfold s1 at q
  obtain ⟨a, s1, q1, q⟩ := sC_some q
  obtain ⟨q3, eg⟩ := sP_some q
  subst eg
  obtain ⟨rfl, hl⟩ := szG_some q3
  refine h _ _ q1 c F1 H e k _ fun vs F2 H2 e2 k2 r2 => ⟨sz_ok (by rw [r2.length]; exact hl), fun p hp => hQ p F2 _ e2 (k2.own hp ⟨vs, rfl, r2⟩) (k2.dom p hp)⟩
/-- tuple([..]) of a new list -/
theorem sm_tuple {ma : Option (List α × γ)} (ha : SM (rLst ra) ta σ F (cs s) ma cs) : SM (rTup K ra) (tCB (fun xs H Q => ∃ p ys, xs = [.ref p] ∧ ((SqL K H p ys ∧ ∀ l, H l = none → Q (.ref l) (upd H l (.tup ys))) ∨ (SqT K H p ys ∧ Q (.ref p) H))) (tCons ta tNil)) σ F (cs s) ma cs := fun d g q c F1 H e k Q hQ => by
  refine ha d g q c F1 H e k _ fun x F2 H2 e2 k2 r2 => ?_
  obtain ⟨p, vs, rfl, h1, h2⟩ := r2
  exact ⟨p, vs, rfl, .inl ⟨SqL.of (k2.ex _ _ h1), fun l hl => hQ (.ref l) _ _ (e2.trans (Ex.new (k2.fnone hl))) (k2.lay hl) ⟨l, vs, rfl, upd_same, Rs.up (Ex.new (k2.fnone hl)) h2⟩⟩⟩
end

/-! ### what is walked -/
structure Goes {α : Type} (J : It) (F : Hp) (ra : Rp α) (ds : List α) : Prop where
  go : ∀ i d, ds[i]? = some d → ∀ c F' cs H, Ex F F' → Cov c F' cs H → J.go i H ∧ ∀ x H', J.yld i H x H' → ∃ F'', Ex F' F'' ∧ (∀ c cs, Cov c F' cs H → Cov c F'' cs H') ∧ ra.r F'' x d
  stop : ∀ c F' cs H, Ex F F' → Cov c F' cs H → J.stop ds.length H
def EI {α : Type} (ra : Rp α) (wi : TI) (σ : L2.St) (F : Hp) (cs : Cs) (m : Option (List α)) : Prop := ∀ ds, m = some ds → ∀ c F1 H, Ex F F1 → Cov c F1 cs H → ∀ R : It → Hp → Prop, (∀ J F2 H2, Ex F1 F2 → Cov c F2 cs H2 → Goes J F2 ra ds → R J H2) → wi σ H R
section
variable {α : Type} {ra : Rp α} {σ : L2.St} {F H : Hp} {cs : Cs} {K : PySem.W.Frag} {te : TE}
theorem goes_list' {a : Addr} {vs : List V} {ds : List α} (h : SqL K F a vs) (r : Rs ra F vs ds) : Goes (Itl K a) F ra ds where
  go := fun i d hd c F' cs H e k => by
    obtain ⟨v, h1, h2⟩ := rs_get r hd
    refine ⟨⟨vs, v, Evl.ex_l (e.trans k.ex) h, h1⟩, fun x H' y => ?_⟩
    obtain ⟨y1, y2⟩ := y
    subst y1
    have z := y2 vs (Evl.ex_l (e.trans k.ex) h)
    rw [h1] at z
    cases z
    exact ⟨F', Evl.Ex.refl _, fun _ _ k => k, ra.up e h2⟩
  stop := fun c F' cs H e k => ⟨vs, Evl.ex_l (e.trans k.ex) h, by rw [r.length]; exact Nat.le_refl _⟩
theorem goes_tup {a : Addr} {vs : List V} {ds : List α} (h : SqT K F a vs) (r : Rs ra F vs ds) : Goes (Itt K a) F ra ds where
  go := fun i d hd c F' cs H e k => by
    obtain ⟨v, h1, h2⟩ := rs_get r hd
    refine ⟨⟨vs, v, Evl.ex_t (e.trans k.ex) h, h1⟩, fun x H' y => ?_⟩
    obtain ⟨y1, y2⟩ := y
    subst y1
    have z := y2 vs (Evl.ex_t (e.trans k.ex) h)
    rw [h1] at z
    cases z
    exact ⟨F', Evl.Ex.refl _, fun _ _ k => k, ra.up e h2⟩
  stop := fun c F' cs H e k => ⟨vs, Evl.ex_t (e.trans k.ex) h, by rw [r.length]; exact Nat.le_refl _⟩
/-- lo, lo + 1, .. -/
def rngL (lo hi : Int) : List Int := (List.range (hi - lo).toNat).map fun (i : Nat) => lo + (i : Int)
theorem rngL_get {lo hi : Int} {i : Nat} {d : Int} (h : (rngL lo hi)[i]? = some d) : i < (hi - lo).toNat ∧ d = lo + (i : Int) := by
  unfold rngL at h
  rw [List.getElem?_map] at h
  by_cases q : i < (hi - lo).toNat
  · rw [List.getElem?_range q] at h
    cases h
    exact ⟨q, rfl⟩
  · rw [List.getElem?_eq_none (by rw [List.length_range]; omega)] at h
    cases h
theorem rngL_len (lo hi : Int) : (rngL lo hi).length = (hi - lo).toNat := by
  unfold rngL
  rw [List.length_map, List.length_range]
theorem goes_rng {lo hi : Int} : Goes (Itr lo (hi - lo).toNat) F rInt (rngL lo hi) where
  go := fun i d hd c F' cs H e k => by
    obtain ⟨h1, h2⟩ := rngL_get hd
    refine ⟨h1, fun x H' y => ?_⟩
    obtain ⟨y1, y2⟩ := y
    subst y1 y2 h2
    exact ⟨F', Evl.Ex.refl _, fun _ _ k => k, rfl⟩
  stop := fun c F' cs H e k => by
    show (hi - lo).toNat ≤ _
    rw [rngL_len]
    exact Nat.le_refl _
theorem ei_list {m : Option (List α)} (h : EM (rLst ra) te σ F cs m) : EI ra (iList K te) σ F cs m := fun ds q c F1 H e k R hR => h ds q c F1 H e k _ fun v F2 H2 e2 k2 r2 => by
  obtain ⟨a, vs, rfl, h1, h2⟩ := r2
  exact ⟨a, rfl, ⟨vs, SqL.of (k2.ex _ _ h1)⟩, hR _ F2 H2 e2 k2 (goes_list' (SqL.of h1) h2)⟩
theorem ei_tup {m : Option (List α)} (h : EM (rTup K ra) te σ F cs m) : EI ra (iTup K te) σ F cs m := fun ds q c F1 H e k R hR => h ds q c F1 H e k _ fun v F2 H2 e2 k2 r2 => by
  obtain ⟨a, vs, rfl, h1, h2⟩ := r2
  exact ⟨a, rfl, ⟨vs, ext_ k2.ex h1⟩, hR _ F2 H2 e2 k2 (goes_tup (SqT.of h1) h2)⟩
def rngG (hi : Int) : Option (List Int) := if -(2 ^ 62) ≤ hi ∧ hi < 2 ^ 62 then some (rngL 0 hi) else none
theorem ei_rng1 {m : Option Int} (h : EM rInt te σ F cs m) : EI rInt (iRng1 (tCons te tNil)) σ F cs (o1 rngG m) := fun ds q c F1 H e k R hR => by
  obtain ⟨j, q1, q2⟩ := o1_some q
  unfold rngG at q2
  split at q2
  · rename_i g
    cases q2
    refine h j q1 c F1 H e k _ fun v F2 H2 e2 k2 r2 => ?_
    cases r2
    have z := hR (Itr 0 (j - 0).toNat) F2 H2 e2 k2 goes_rng
    rw [Int.sub_zero] at z
    exact ⟨j, rfl, g.1, g.2, z⟩
  · cases q2
end

/-! ### comprehensions -/
def oMap {α β : Type} (t : α → Option Bool) (f : α → Option β) : List α → Option (List β)
  | [] => some []
  | a :: l => (t a).bind fun b => if b = true then (f a).bind fun x => (oMap t f l).bind fun r => some (x :: r) else oMap t f l
def yes {α : Type} : α → Option Bool := fun _ => some true
def oLc {α β : Type} (t : α → Option Bool) (f : α → Option β) (l : List α) : Option (List β) := if l.length ≤ 16000000 then oMap t f l else none
def sMap {α β γ : Type} (f : α → γ → Option (β × γ)) : List α → γ → Option (List β × γ)
  | [], s => some ([], s)
  | a :: l, s => sC (f a s) fun x s => sC (sMap f l s) fun r s => some (x :: r, s)
def sLc {α β γ : Type} (f : α → γ → Option (β × γ)) (l : List α) (s : γ) : Option (List β × γ) := if l.length ≤ 16000000 then sMap f l s else none
/-- a target takes a value: the slots behind it, and what is known there -/
def GT {α : Type} (g : TG) (ra : Rp α) (K : PySem.W.Frag) (σ : L2.St) (S : α → Hp → L2.St → Prop) : Prop := ∀ c F cs H v d, Cov c F cs H → ra.r F v d → ∀ Q : L2.St → Hp → Prop, (∀ σ2, S d F σ2 → Q σ2 H) → g v σ H Q
section
variable {α β γ : Type} {ra : Rp α} {rb : Rp β} {σ : L2.St} {F H : Hp} {cs : Cs} {K : PySem.W.Frag} {te : TE} {wi : TI} {g : TG} {tt : TT} {vs : List Nat}
theorem gt_name {j : Nat} {σ1 : V → L2.St} (h : ∀ v, σ.set j (some v) = σ1 v) : GT (gName j) ra K σ (fun d F σ2 => ∃ v, σ2 = σ1 v ∧ ra.r F v d) := fun c F cs H v d k r Q hQ => hQ _ ⟨v, h v, r⟩
theorem oMap_drop {t : α → Option Bool} {f : α → Option β} {ds : List α} {i : Nat} {d : α} (h : ds[i]? = some d) : oMap t f (ds.drop i) = (t d).bind fun b => if b = true then (f d).bind fun x => (oMap t f (ds.drop (i + 1))).bind fun r => some (x :: r) else oMap t f (ds.drop (i + 1)) := by
  obtain ⟨h1, h2⟩ := List.getElem?_eq_some_iff.mp h
  rw [List.drop_eq_getElem_cons h1, h2] <;> rfl
theorem sz_lt {n : Nat} (h : n < 16000001) : n < sizeLine := by
  rw [sizeLine_eq]; omega
/-- [e for target in .. if ..] -/
theorem ef_lc {m : Option (List α)} {t : α → Option Bool} {f : α → Option β} {S : α → Hp → L2.St → Prop} (hw : EI ra wi σ F cs m) (hg : GT g ra K (wipe σ vs) S) (hs : ∀ d F σ2, S d F σ2 → wipe σ2 vs = wipe σ vs)
    (ht : ∀ d F1 σ2, Ex F F1 → S d F1 σ2 → ET tt σ2 F1 cs (t d)) (he : ∀ d F1 σ2, Ex F F1 → S d F1 σ2 → EM rb te σ2 F1 cs (f d)) : EF rb (tLc wi g tt te vs) σ F cs (o1 (oLc t f) m) := fun r q c F1 H1 e1 k1 Q hQ => by
  obtain ⟨ds, q1, q2⟩ := o1_some q
  unfold oLc at q2
  split at q2
  case isFalse => cases q2
  rename_i hlen
  refine hw ds q1 c F1 H1 e1 k1 _ fun J F2 H2 e2 k2 G => fun D hD => ?_
  have hD0 := k2.dom D hD
  refine ⟨fun i m H => m = ds.length - i ∧ i ≤ ds.length ∧ ∃ F' acc rest, Ex F2 F' ∧ oMap t f (ds.drop i) = some rest ∧ r = acc ++ rest ∧ acc.length ≤ i ∧ Cov c F' (cs ++ [(D, cLst rb acc)]) H,
    ⟨ds.length, by simp, Nat.zero_le _, F2, [], r, Evl.Ex.refl _, q2, rfl, Nat.le_refl _, k2.own hD ⟨[], rfl, .nil⟩⟩, ?_⟩
  rintro i m H ⟨rfl, hi, F', acc, rest, e3, hr, eq, la, k3⟩
  by_cases hlt : i < ds.length
  · have hd : ds[i]? = some ds[i] := by simp [hlt]
    obtain ⟨g1, g2⟩ := G.go i _ hd c F' _ H e3 k3
    refine .inr ⟨g1, fun H => ∃ F' acc rest, Ex F2 F' ∧ oMap t f (ds.drop (i + 1)) = some rest ∧ r = acc ++ rest ∧ acc.length ≤ i + 1 ∧ Cov c F' (cs ++ [(D, cLst rb acc)]) H, fun H' ⟨F', acc, rest, z⟩ => ⟨ds.length - (i + 1), by omega, rfl, hlt, F', acc, rest, z⟩, fun x H' y => ?_⟩
    obtain ⟨F4, e4, c4, r4⟩ := g2 x H' y
    have k4 := c4 c _ k3
    rw [oMap_drop hd] at hr
    obtain ⟨b, h1, hr⟩ := bind_some hr
    refine hg c F4 _ H' x _ k4 r4 _ fun σ2 s2 => ⟨hs _ _ _ s2, ?_⟩
    -- the test, the cells without D, rebased
    have kk : Cov c F4 cs H' := by
      have z := k4.keepN cs.length
      rw [List.take_left] at z
      exact z
    have e04 : Ex F F4 := ((e1.trans e2).trans e3).trans e4
    refine ht _ F4 σ2 e04 s2 b h1 _ F4 H' (Evl.Ex.refl _) kk.base _ fun F5 H5 e5 k5 => ?_
    have k5' : Cov c F5 (cs ++ [(D, cLst rb acc)]) H5 := k4.back k5 (Cov.old_ps k5)
    cases b with
    | true =>
      obtain ⟨z, h2, hr⟩ := bind_some hr
      obtain ⟨rr, h3, hr⟩ := bind_some hr
      cases hr
      have kk5 : Cov c F5 cs H5 := by
        have z := k5'.keepN cs.length
        rw [List.take_left] at z
        exact z
      show te σ2 H5 _
      refine he _ F4 σ2 e04 s2 z h2 _ F5 H5 e5 kk5.base _ fun v F6 H6 e6 k6 r6 => ?_
      have k6' : Cov c F6 (cs ++ [(D, cLst rb acc)]) H6 := k5'.back k6 (Cov.old_ps k6)
      obtain ⟨f1, _, o, f3, ws, rfl, f4⟩ := k6'.cell (D, cLst rb acc) (List.mem_append_right _ List.mem_cons_self)
      refine ⟨ws, f3, sz_lt (by rw [f4.length]; omega), F6, acc ++ [z], rr, ((e3.trans e4).trans e5).trans e6, h3, by rw [eq]; simp, by simp; omega, ?_⟩
      have k7 := k6'.set cs.length (p := D) (x := cLst rb acc) (x' := cLst rb (acc ++ [z])) (o := .lst (ws ++ [v])) (by simp) ⟨ws ++ [v], rfl, f4.snoc r6⟩
      rw [List.set_append_right _ _ (Nat.le_refl _), Nat.sub_self] at k7
      exact k7
    | false =>
      exact ⟨F5, acc, rest, (e3.trans e4).trans e5, hr, eq, by omega, k5'⟩
  · have e : i = ds.length := by omega
    subst e
    rw [List.drop_length] at hr
    cases hr
    rw [List.append_nil] at eq
    subst eq
    exact .inl ⟨G.stop c F' _ H e3 k3, hQ D F' H (e2.trans e3) k3 hD0⟩
theorem et_yes {σ : L2.St} {d : α} : ET tYes σ F cs (yes d) := fun b q c F1 H e k Q hQ => by cases q; exact hQ F1 H (Evl.Ex.refl _) k
theorem sMap_drop {f : α → γ → Option (β × γ)} {ds : List α} {i : Nat} {d : α} {s : γ} (h : ds[i]? = some d) : sMap f (ds.drop i) s = sC (f d s) fun x s => sC (sMap f (ds.drop (i + 1)) s) fun r s => some (x :: r, s) := by
  obtain ⟨h1, h2⟩ := List.getElem?_eq_some_iff.mp h
  rw [List.drop_eq_getElem_cons h1, h2] <;> rfl
/-- the same, each item changes the state -/
theorem sf_lc {cs : γ → Cs} {s : γ} {m : Option (List α)} {f : α → γ → Option (β × γ)} {S : α → Hp → L2.St → Prop} (hw : EI ra wi σ F (cs s) m) (hg : GT g ra K (wipe σ vs) S) (hs : ∀ d F σ2, S d F σ2 → wipe σ2 vs = wipe σ vs)
    (he : ∀ d F1 σ2 s, Ex F F1 → S d F1 σ2 → SM rb te σ2 F1 (cs s) (f d s) cs) (hps : ∀ s s2, (cs s).map (·.1) = (cs s2).map (·.1)) : SF rb (tLc wi g tYes te vs) σ F (cs s) (m.bind fun l => sLc f l s) cs := fun r sE q c F1 H1 e1 k1 Q hQ => by
  obtain ⟨ds, q1, q2⟩ := bind_some q
  unfold sLc at q2
  split at q2
  case isFalse => cases q2
  rename_i hlen
  refine hw ds q1 c F1 H1 e1 k1 _ fun J F2 H2 e2 k2 G => fun D hD => ?_
  have hD0 := k2.dom D hD
  refine ⟨fun i m H => m = ds.length - i ∧ i ≤ ds.length ∧ ∃ F' acc rest s', Ex F2 F' ∧ sMap f (ds.drop i) s' = some (rest, sE) ∧ r = acc ++ rest ∧ acc.length ≤ i ∧ Cov c F' (cs s' ++ [(D, cLst rb acc)]) H,
    ⟨ds.length, by simp, Nat.zero_le _, F2, [], r, s, Evl.Ex.refl _, q2, rfl, Nat.le_refl _, k2.own hD ⟨[], rfl, .nil⟩⟩, ?_⟩
  rintro i m H ⟨rfl, hi, F', acc, rest, s', e3, hr, eq, la, k3⟩
  by_cases hlt : i < ds.length
  · have hd : ds[i]? = some ds[i] := by simp [hlt]
    obtain ⟨g1, g2⟩ := G.go i _ hd c F' _ H e3 k3
    refine .inr ⟨g1, fun H => ∃ F' acc rest s', Ex F2 F' ∧ sMap f (ds.drop (i + 1)) s' = some (rest, sE) ∧ r = acc ++ rest ∧ acc.length ≤ i + 1 ∧ Cov c F' (cs s' ++ [(D, cLst rb acc)]) H, fun H' ⟨F', acc, rest, s', z⟩ => ⟨ds.length - (i + 1), by omega, rfl, hlt, F', acc, rest, s', z⟩, fun x H' y => ?_⟩
    obtain ⟨F4, e4, c4, r4⟩ := g2 x H' y
    have k4 := c4 c _ k3
    rw [sMap_drop hd] at hr
    obtain ⟨z, s3, h2, hr⟩ := sC_some hr
    obtain ⟨rr, s4, h3, hr⟩ := sC_some hr
    cases hr
    refine hg c F4 _ H' x _ k4 r4 _ fun σ2 s2 => ⟨hs _ _ _ s2, ?_⟩
    have kk : Cov c F4 (cs s') H' := by
      have z := k4.keepN (cs s').length
      rw [List.take_left] at z
      exact z
    have e04 : Ex F F4 := ((e1.trans e2).trans e3).trans e4
    show te σ2 H' _
    refine he _ F4 σ2 s' e04 s2 z s3 h2 _ F4 H' (Evl.Ex.refl _) kk.base _ fun v F6 H6 e6 k6 r6 => ?_
    have k6' : Cov c F6 (cs s3 ++ [(D, cLst rb acc)]) H6 := k4.back k6 (Cov.old_ps k6)
    obtain ⟨f1, _, o, f3, ws, rfl, f4⟩ := k6'.cell (D, cLst rb acc) (List.mem_append_right _ List.mem_cons_self)
    refine ⟨ws, f3, sz_lt (by rw [f4.length]; omega), F6, acc ++ [z], rr, s3, (e3.trans e4).trans e6, h3, by rw [eq]; simp, by simp; omega, ?_⟩
    have k7 := k6'.set (cs s3).length (p := D) (x := cLst rb acc) (x' := cLst rb (acc ++ [z])) (o := .lst (ws ++ [v])) (by simp) ⟨ws ++ [v], rfl, f4.snoc r6⟩
    rw [List.set_append_right _ _ (Nat.le_refl _), Nat.sub_self] at k7
    exact k7
  · have e : i = ds.length := by omega
    subst e
    rw [List.drop_length] at hr
    cases hr
    rw [List.append_nil] at eq
    subst eq
    exact .inl ⟨G.stop c F' _ H e3 k3, hQ D F' H (e2.trans e3) k3 hD0⟩
end
end Mw

set_option maxHeartbeats 2000000
namespace Mw
open PySem L2
open Evl (Ex)
/-! ### loops, as data -/
def oFold {α γ : Type} (f : α → γ → Option γ) : List α → γ → Option γ
  | [], g => some g
  | a :: l, g => (f a g).bind (oFold f l)
/-- how a turn ends -/
inductive Lp (γ ρ : Type) where
  | go (g : γ)
  | brk (g : γ)
  | ret (r : ρ)
/-- how a loop ends -/
inductive Out (γ ρ : Type) where
  | nx (g : γ)
  | ret (r : ρ)
def oLoop {α γ ρ : Type} (f : α → γ → Option (Lp γ ρ)) : List α → γ → Option (Out γ ρ)
  | [], g => some (.nx g)
  | a :: l, g => (f a g).bind fun o => match o with
    | .go g' => oLoop f l g'
    | .brk g' => some (.nx g')
    | .ret r => some (.ret r)
def oWhile {γ : Type} (t : γ → Option Bool) (f : γ → Option γ) : Nat → γ → Option γ
  | 0, _ => none
  | n + 1, g => (t g).bind fun b => if b = true then (f g).bind (oWhile t f n) else some g
/-! ### statements -/
section
variable {α β γ ρ : Type} {ra : Rp α} {rb : Rp β} {σ : L2.St} {F H : Hp} {cs : Cs} {K : PySem.W.Frag} {te ta tb : TE} {t : TT} {tu tw tz : TS} {D : Ends} {c : Act} {d : α} {m : Option α}
theorem sq {t1 t2 : TS} (h : t1 { D with nx := t2 D } σ H) : tSeq t1 t2 D σ H := h
theorem a_set {i : Nat} (h : EM ra te σ F cs m) (hm : m = some d) (k : Cov c F cs H) (n : ∀ v F2 H2, Ex F F2 → Cov c F2 cs H2 → ra.r F2 v d → D.nx (σ.set i (some v)) H2) : tAsg te (gName i) D σ H := h d hm c F H (Evl.Ex.refl _) k _ fun v F2 H2 e2 k2 r2 => n v F2 H2 e2 k2 r2
theorem q_set {i : Nat} (h : EM ra te σ F cs m) (hm : m = some d) (k : Cov c F cs H) (n : ∀ v F2 H2, Ex F F2 → Cov c F2 cs H2 → ra.r F2 v d → tz D (σ.set i (some v)) H2) : tSeq (tAsg te (gName i)) tz D σ H := a_set (D := { D with nx := tz D }) h hm k n
theorem a_setF {i : Nat} {ds : List α} {m : Option (List α)} (h : EF ra te σ F cs m) (hm : m = some ds) (k : Cov c F cs H) (n : ∀ p F2 H2, Ex F F2 → Cov c F2 (cs ++ [(p, cLst ra ds)]) H2 → c.H0 p = none → D.nx (σ.set i (some (.ref p))) H2) : tAsg te (gName i) D σ H := h ds hm c F H (Evl.Ex.refl _) k _ fun v F2 H2 e2 k2 r2 => n v F2 H2 e2 k2 r2
theorem q_setF {i : Nat} {ds : List α} {m : Option (List α)} (h : EF ra te σ F cs m) (hm : m = some ds) (k : Cov c F cs H) (n : ∀ p F2 H2, Ex F F2 → Cov c F2 (cs ++ [(p, cLst ra ds)]) H2 → c.H0 p = none → tz D (σ.set i (some (.ref p))) H2) : tSeq (tAsg te (gName i)) tz D σ H := a_setF (D := { D with nx := tz D }) h hm k n
theorem a_setS {i : Nat} {cs' : γ → Cs} {g : γ} {m : Option (α × γ)} (h : SM ra te σ F cs m cs') (hm : m = some (d, g)) (k : Cov c F cs H) (n : ∀ v F2 H2, Ex F F2 → Cov c F2 (cs' g) H2 → ra.r F2 v d → D.nx (σ.set i (some v)) H2) : tAsg te (gName i) D σ H := h d g hm c F H (Evl.Ex.refl _) k _ fun v F2 H2 e2 k2 r2 => n v F2 H2 e2 k2 r2
theorem q_setS {i : Nat} {cs' : γ → Cs} {g : γ} {m : Option (α × γ)} (h : SM ra te σ F cs m cs') (hm : m = some (d, g)) (k : Cov c F cs H) (n : ∀ v F2 H2, Ex F F2 → Cov c F2 (cs' g) H2 → ra.r F2 v d → tz D (σ.set i (some v)) H2) : tSeq (tAsg te (gName i)) tz D σ H := a_setS (D := { D with nx := tz D }) h hm k n
theorem a_setSF {i : Nat} {cs' : γ → Cs} {g : γ} {ds : List α} {m : Option (List α × γ)} (h : SF ra te σ F cs m cs') (hm : m = some (ds, g)) (k : Cov c F cs H) (n : ∀ p F2 H2, Ex F F2 → Cov c F2 (cs' g ++ [(p, cLst ra ds)]) H2 → c.H0 p = none → D.nx (σ.set i (some (.ref p))) H2) : tAsg te (gName i) D σ H := h ds g hm c F H (Evl.Ex.refl _) k _ fun v F2 H2 e2 k2 r2 => n v F2 H2 e2 k2 r2
theorem q_setSF {i : Nat} {cs' : γ → Cs} {g : γ} {ds : List α} {m : Option (List α × γ)} (h : SF ra te σ F cs m cs') (hm : m = some (ds, g)) (k : Cov c F cs H) (n : ∀ p F2 H2, Ex F F2 → Cov c F2 (cs' g ++ [(p, cLst ra ds)]) H2 → c.H0 p = none → tz D (σ.set i (some (.ref p))) H2) : tSeq (tAsg te (gName i)) tz D σ H := a_setSF (D := { D with nx := tz D }) h hm k n
theorem a_par {i j : Nat} {e : β} {m2 : Option β} (h : EM ra ta σ F cs m) (h2 : EM rb tb σ F cs m2) (hm : m = some d) (hm2 : m2 = some e) (k : Cov c F cs H) (n : ∀ v w F2 H2, Ex F F2 → Cov c F2 cs H2 → ra.r F2 v d → rb.r F2 w e → D.nx ((σ.set i (some v)).set j (some w)) H2) : tPar i j (tCons ta (tCons tb tNil)) D σ H :=
  h d hm c F H (Evl.Ex.refl _) k _ fun v F2 H2 e2 k2 r2 => h2 e hm2 c F2 H2 e2 k2 _ fun w F3 H3 e3 k3 r3 => ⟨v, w, rfl, n v w F3 H3 (e2.trans e3) k3 (ra.up e3 r2) r3⟩
theorem q_par {i j : Nat} {e : β} {m2 : Option β} (h : EM ra ta σ F cs m) (h2 : EM rb tb σ F cs m2) (hm : m = some d) (hm2 : m2 = some e) (k : Cov c F cs H) (n : ∀ v w F2 H2, Ex F F2 → Cov c F2 cs H2 → ra.r F2 v d → rb.r F2 w e → tz D ((σ.set i (some v)).set j (some w)) H2) : tSeq (tPar i j (tCons ta (tCons tb tNil))) tz D σ H :=
  a_par (D := { D with nx := tz D }) h h2 hm hm2 k n
theorem a_aug {i : Nat} {f : Int → Int → Int} {a b : Int} {v : V} {F0 : Hp} {mi : Option Int} (hx : σ[i]? = some (some v)) (rv : rInt.r F0 v a) (h : EM rInt te σ F cs mi) (hm : mi = some b) (k : Cov c F cs H) (n : ∀ v F2 H2, Ex F F2 → Cov c F2 cs H2 → rInt.r F2 v (f a b) → D.nx (σ.set i (some v)) H2) : tAug i te (ipI f) D σ H :=
  ⟨v, hx, h b hm c F H (Evl.Ex.refl _) k _ fun w F2 H2 e2 k2 r2 => ⟨a, b, rv, r2, n _ F2 H2 e2 k2 rfl⟩⟩
/-- xs.append(e), xs a cell -/
theorem a_app {i j : Nat} {p : Addr} {ds : List α} (hx : σ[i]? = some (some (.ref p))) (hj : cs[j]? = some (p, cLst ra ds)) (h : EM ra te σ F cs m) (hm : m = some d) (hz : ds.length ≤ 16000000) (k : Cov c F cs H)
    (n : ∀ F2 H2, Ex F F2 → Cov c F2 (cs.set j (p, cLst ra (ds ++ [d]))) H2 → D.nx σ H2) : tDrop (tBM K "list" rAppend (tVar i) (tCons te tNil)) D σ H := by
  refine ⟨_, hx, ?_, ?_⟩
  · obtain ⟨_, _, o, h3, vs, rfl, h4⟩ := k.at_ j hj
    exact .inl ⟨rfl, _, SqL.of h3⟩
  · refine h d hm c F H (Evl.Ex.refl _) k _ fun v F2 H2 e2 k2 r2 => ?_
    obtain ⟨_, _, o, h3, vs, rfl, h4⟩ := k2.at_ j hj
    exact ⟨p, vs, v, rfl, rfl, h3, sz_lt (by rw [h4.length]; omega), n F2 _ e2 (k2.set j hj ⟨_, rfl, h4.snoc r2⟩)⟩
theorem q_app {i j : Nat} {p : Addr} {ds : List α} (hx : σ[i]? = some (some (.ref p))) (hj : cs[j]? = some (p, cLst ra ds)) (h : EM ra te σ F cs m) (hm : m = some d) (hz : ds.length ≤ 16000000) (k : Cov c F cs H)
    (n : ∀ F2 H2, Ex F F2 → Cov c F2 (cs.set j (p, cLst ra (ds ++ [d]))) H2 → tz D σ H2) : tSeq (tDrop (tBM K "list" rAppend (tVar i) (tCons te tNil))) tz D σ H := a_app (D := { D with nx := tz D }) hx hj h hm hz k n
def appG {α : Type} (l : List α) (x : α) : Option (List α) := if l.length ≤ 16000000 then some (l ++ [x]) else none
theorem appG_some {α : Type} {l d : List α} {x : α} (h : appG l x = some d) : d = l ++ [x] ∧ l.length ≤ 16000000 := by
  unfold appG at h
  split at h
  · cases h; exact ⟨rfl, by assumption⟩
  · cases h
/-- xs[i] = e, xs a cell -/
theorem a_sub {i j : Nat} {p : Addr} {ds ds' : List α} {ix : Int} {mi : Option Int} {ti : TE} (hx : σ[i]? = some (some (.ref p))) (hj : cs[j]? = some (p, cLst ra ds)) (h : EM ra te σ F cs m) (hi : EM rInt ti σ F cs mi) (hm : m = some d) (hmi : mi = some ix) (hset : setG ds ix d = some ds') (k : Cov c F cs H)
    (n : ∀ F2 H2, Ex F F2 → Cov c F2 (cs.set j (p, cLst ra ds')) H2 → D.nx σ H2) : tAsg te (gSub (tVar i) ti rSetL) D σ H := by
  refine h d hm c F H (Evl.Ex.refl _) k _ fun v F2 H2 e2 k2 r2 => ?_
  refine ⟨_, hx, hi ix hmi c F2 H2 e2 k2 _ fun w F3 H3 e3 k3 r3 => ?_⟩
  cases r3
  obtain ⟨_, _, o, h3, vs, rfl, h4⟩ := k3.at_ j hj
  unfold setG at hset
  cases q : ixN ds.length ix with
  | none => rw [q] at hset; cases hset
  | some jj =>
    rw [q] at hset
    cases hset
    exact ⟨p, vs, ix, jj, rfl, rfl, h3, by rw [h4.length]; exact q, n F3 _ (e2.trans e3) (k3.set j hj ⟨_, rfl, h4.set jj (ra.up e3 r2)⟩)⟩
theorem q_sub {i j : Nat} {p : Addr} {ds ds' : List α} {ix : Int} {mi : Option Int} {ti : TE} (hx : σ[i]? = some (some (.ref p))) (hj : cs[j]? = some (p, cLst ra ds)) (h : EM ra te σ F cs m) (hi : EM rInt ti σ F cs mi) (hm : m = some d) (hmi : mi = some ix) (hset : setG ds ix d = some ds') (k : Cov c F cs H)
    (n : ∀ F2 H2, Ex F F2 → Cov c F2 (cs.set j (p, cLst ra ds')) H2 → tz D σ H2) : tSeq (tAsg te (gSub (tVar i) ti rSetL)) tz D σ H := a_sub (D := { D with nx := tz D }) hx hj h hi hm hmi hset k n
/-! ifs -/
theorem a_if {b : Bool} {mb : Option Bool} (h : ET t σ F cs mb) (hm : mb = some b) (k : Cov c F cs H) (h1 : b = true → ∀ F2 H2, Ex F F2 → Cov c F2 cs H2 → tu D σ H2) (h2 : b = false → ∀ F2 H2, Ex F F2 → Cov c F2 cs H2 → tw D σ H2) : tIfS t tu tw D σ H := h b hm c F H (Evl.Ex.refl _) k _ fun F2 H2 e2 k2 => by
  cases b with
  | true =>
    show tu D σ H2
    exact h1 rfl F2 H2 e2 k2
  | false =>
    show tw D σ H2
    exact h2 rfl F2 H2 e2 k2
theorem a_ifS {cs' : γ → Cs} {g : γ} {b : Bool} {mb : Option (Bool × γ)} (h : ST t σ F cs mb cs') (hm : mb = some (b, g)) (k : Cov c F cs H) (h1 : b = true → ∀ F2 H2, Ex F F2 → Cov c F2 (cs' g) H2 → tu D σ H2) (h2 : b = false → ∀ F2 H2, Ex F F2 → Cov c F2 (cs' g) H2 → tw D σ H2) : tIfS t tu tw D σ H := h b g hm c F H (Evl.Ex.refl _) k _ fun F2 H2 e2 k2 => by
  cases b with
  | true =>
    show tu D σ H2
    exact h1 rfl F2 H2 e2 k2
  | false =>
    show tw D σ H2
    exact h2 rfl F2 H2 e2 k2
theorem q_cut {Mid : L2.St → Hp → Prop} (h : tu { D with nx := Mid } σ H) (k : ∀ σ' H', Mid σ' H' → tz D σ' H') : Evl.tCut tu tz D σ H := ⟨Mid, h, k⟩
/-! return -/
theorem a_ret (h : EM ra te σ F cs m) (hm : m = some d) (k : Cov c F cs H) (n : ∀ v F2 H2, Ex F F2 → Cov c F2 cs H2 → ra.r F2 v d → D.rt v H2) : tRet te D σ H := h d hm c F H (Evl.Ex.refl _) k _ n
theorem a_retF {ds : List α} {m : Option (List α)} (h : EF ra te σ F cs m) (hm : m = some ds) (k : Cov c F cs H) (n : ∀ p F2 H2, Ex F F2 → Cov c F2 (cs ++ [(p, cLst ra ds)]) H2 → D.rt (.ref p) H2) : tRet te D σ H := h ds hm c F H (Evl.Ex.refl _) k _ fun p F2 H2 e2 k2 n2 => n p F2 H2 e2 k2
theorem a_retS {cs' : γ → Cs} {g : γ} {m : Option (α × γ)} (h : SM ra te σ F cs m cs') (hm : m = some (d, g)) (k : Cov c F cs H) (n : ∀ v F2 H2, Ex F F2 → Cov c F2 (cs' g) H2 → ra.r F2 v d → D.rt v H2) : tRet te D σ H := h d g hm c F H (Evl.Ex.refl _) k _ n
end
/-! ### for -/
section
variable {α γ ρ : Type} {ra : Rp α} {σ : L2.St} {F H : Hp} {cs : Cs} {K : PySem.W.Frag} {wi : TI} {g : TG} {tb tz : TS} {D : Ends} {c : Act} {m : Option (List α)} {ds : List α}
theorem fold_drop {f : α → γ → Option γ} {ds : List α} {i : Nat} {d : α} {s : γ} (h : ds[i]? = some d) : oFold f (ds.drop i) s = (f d s).bind (oFold f (ds.drop (i + 1))) := by
  obtain ⟨h1, h2⟩ := List.getElem?_eq_some_iff.mp h
  rw [List.drop_eq_getElem_cons h1, h2] <;> rfl
theorem loop_drop {f : α → γ → Option (Lp γ ρ)} {ds : List α} {i : Nat} {d : α} {s : γ} (h : ds[i]? = some d) : oLoop f (ds.drop i) s = (f d s).bind fun o => match o with
    | .go g' => oLoop f (ds.drop (i + 1)) g'
    | .brk g' => some (.nx g')
    | .ret r => some (.ret r) := by
  obtain ⟨h1, h2⟩ := List.getElem?_eq_some_iff.mp h
  rw [List.drop_eq_getElem_cons h1, h2] <;> rfl
/-- the state between two turns: what the invariant says of the data, the slots, the frozen part and the heap -/
abbrev Inva (γ : Type) := γ → L2.St → Hp → Hp → Prop
/-- for target in ..: body, every turn to its end -/
theorem a_for {f : α → γ → Option γ} {g0 g1 : γ} (hw : EI ra wi σ F cs m) (hm : m = some ds) (k : Cov c F cs H) (hf : oFold f ds g0 = some g1)
    (n : ∀ F2 H2, Ex F F2 → Cov c F2 cs H2 → ∃ (J : Inva γ) (cj : γ → Cs), J g0 σ F2 H2 ∧ (∀ x σ' F' H', J x σ' F' H' → Ex F2 F' ∧ Cov c F' (cj x) H') ∧
      (∀ d v x x' σ' F' H' F3 H3, J x σ' F' H' → Ex F' F3 → Cov c F3 (cj x) H3 → ra.r F3 v d → f d x = some x' →
        g v σ' H3 fun σ2 H4 => tb { D with nx := fun σ' H' => ∃ F', J x' σ' F' H', ct := fun σ' H' => ∃ F', J x' σ' F' H', bk := D.nx } σ2 H4) ∧
      (∀ σ' F' H', J g1 σ' F' H' → D.nx σ' H')) : tFor wi g tb D σ H := by
  refine hw ds hm c F H (Evl.Ex.refl _) k _ fun J0 F2 H2 e2 k2 G => ?_
  obtain ⟨J, cj, j0, stay, turn, fin⟩ := n F2 H2 e2 k2
  refine ⟨fun i m σ H => m = ds.length - i ∧ i ≤ ds.length ∧ ∃ x F', oFold f (ds.drop i) x = some g1 ∧ J x σ F' H, ⟨ds.length, by simp, Nat.zero_le _, g0, F2, hf, j0⟩, ?_⟩
  rintro i m σ H ⟨rfl, hi, x, F', hx, jx⟩
  obtain ⟨e3, k3⟩ := stay _ _ _ _ jx
  by_cases hlt : i < ds.length
  · have hd : ds[i]? = some ds[i] := by simp [hlt]
    obtain ⟨g1', g2⟩ := G.go i _ hd c F' _ H e3 k3
    rw [fold_drop hd] at hx
    obtain ⟨x', h1, h2⟩ := bind_some hx
    refine .inr ⟨g1', fun σ' H' => ∃ F', J x' σ' F' H', fun σ' H' ⟨F'', j'⟩ => ⟨ds.length - (i + 1), by omega, rfl, hlt, x', F'', h2, j'⟩, fun v H' y => ?_⟩
    obtain ⟨F4, e4, c4, r4⟩ := g2 v H' y
    exact turn _ v x x' σ F' H F4 H' jx e4 (c4 c _ k3) r4 h1
  · have e : i = ds.length := by omega
    subst e
    rw [List.drop_length] at hx
    cases hx
    exact .inl ⟨G.stop c F' _ H e3 k3, fin σ F' H jx⟩
/-- for, a turn that may leave -/
theorem a_loop {f : α → γ → Option (Lp γ ρ)} {g0 : γ} {out : Out γ ρ} (hw : EI ra wi σ F cs m) (hm : m = some ds) (k : Cov c F cs H) (hf : oLoop f ds g0 = some out)
    (n : ∀ F2 H2, Ex F F2 → Cov c F2 cs H2 → ∃ (J : Inva γ) (cj : γ → Cs), J g0 σ F2 H2 ∧ (∀ x σ' F' H', J x σ' F' H' → Ex F2 F' ∧ Cov c F' (cj x) H') ∧
      (∀ d v x o σ' F' H' F3 H3, J x σ' F' H' → Ex F' F3 → Cov c F3 (cj x) H3 → ra.r F3 v d → f d x = some o → (∀ r, o = .ret r → out = .ret r) → (∀ x', o = .brk x' → out = .nx x') →
        g v σ' H3 fun σ2 H4 => tb { D with nx := fun σ' H' => ∃ F' x', o = .go x' ∧ J x' σ' F' H', ct := fun σ' H' => ∃ F' x', o = .go x' ∧ J x' σ' F' H', bk := D.nx } σ2 H4) ∧
      (∀ x σ' F' H', out = .nx x → J x σ' F' H' → D.nx σ' H')) : tFor wi g tb D σ H := by
  refine hw ds hm c F H (Evl.Ex.refl _) k _ fun J0 F2 H2 e2 k2 G => ?_
  obtain ⟨J, cj, j0, stay, turn, fin⟩ := n F2 H2 e2 k2
  refine ⟨fun i m σ H => m = ds.length - i ∧ i ≤ ds.length ∧ ∃ x F', oLoop f (ds.drop i) x = some out ∧ J x σ F' H, ⟨ds.length, by simp, Nat.zero_le _, g0, F2, hf, j0⟩, ?_⟩
  rintro i m σ H ⟨rfl, hi, x, F', hx, jx⟩
  obtain ⟨e3, k3⟩ := stay _ _ _ _ jx
  by_cases hlt : i < ds.length
  · have hd : ds[i]? = some ds[i] := by simp [hlt]
    obtain ⟨g1', g2⟩ := G.go i _ hd c F' _ H e3 k3
    rw [loop_drop hd] at hx
    obtain ⟨o, h1, h2⟩ := bind_some hx
    refine .inr ⟨g1', fun σ' H' => ∃ F' x', o = .go x' ∧ J x' σ' F' H', fun σ' H' ⟨F'', x', eo, j'⟩ => ⟨ds.length - (i + 1), by omega, rfl, hlt, x', F'', by rw [eo] at h2; exact h2, j'⟩, fun v H' y => ?_⟩
    obtain ⟨F4, e4, c4, r4⟩ := g2 v H' y
    exact turn _ v x o σ F' H F4 H' jx e4 (c4 c _ k3) r4 h1 (fun r er => by rw [er] at h2; exact (Option.some.inj h2).symm) (fun x' er => by rw [er] at h2; exact (Option.some.inj h2).symm)
  · have e : i = ds.length := by omega
    subst e
    rw [List.drop_length] at hx
    cases hx
    exact .inl ⟨G.stop c F' _ H e3 k3, fin x σ F' H rfl jx⟩
end
/-! ### while -/
section
variable {γ ρ : Type} {σ : L2.St} {F H : Hp} {t : TT} {tb : TS} {D : Ends} {c : Act}
theorem a_while {tt : γ → Option Bool} {f : γ → Option γ} {fuel : Nat} {g0 g1 : γ} (hf : oWhile tt f fuel g0 = some g1) (J : Inva γ) (cj : γ → Cs) (j0 : J g0 σ F H)
    (cov : ∀ x σ' F' H', J x σ' F' H' → Cov c F' (cj x) H') (test : ∀ x σ' F' H', J x σ' F' H' → ET t σ' F' (cj x) (tt x)) (stab : ∀ x σ' F' H' F2 H2, J x σ' F' H' → Ex F' F2 → Cov c F2 (cj x) H2 → J x σ' F2 H2)
    (turn : ∀ x x' σ' F' H', J x σ' F' H' → tt x = some true → f x = some x' → tb { D with nx := fun σ' H' => ∃ F', J x' σ' F' H', ct := fun σ' H' => ∃ F', J x' σ' F' H', bk := D.nx } σ' H')
    (fin : ∀ σ' F' H', tt g1 = some false → J g1 σ' F' H' → D.nx σ' H') : tWhile t tb D σ H := by
  refine ⟨fun n σ H => ∃ x F, oWhile tt f n x = some g1 ∧ J x σ F H, ⟨fuel, g0, F, hf, j0⟩, ?_⟩
  rintro n σ H ⟨x, F, hx, jx⟩
  cases n with
  | zero => cases hx
  | succ n =>
    obtain ⟨b, h1, h2⟩ := bind_some hx
    refine test x σ F H jx b h1 c F H (Evl.Ex.refl _) (cov _ _ _ _ jx) _ fun F2 H2 e2 k2 => ?_
    have j2 := stab _ _ _ _ _ _ jx e2 k2
    cases b with
    | true =>
      obtain ⟨x', h3, h4⟩ := bind_some h2
      rw [if_pos rfl]
      exact ⟨fun σ' H' => ∃ F', J x' σ' F' H', fun σ' H' ⟨F', j'⟩ => ⟨n, Nat.lt_succ_self _, x', F', h4, j'⟩, turn x x' σ F2 H2 j2 h1 h3⟩
    | false =>
      rw [if_neg Bool.false_ne_true]
      have e : x = g1 := Option.some.inj h2
      subst e
      exact fin σ F2 H2 h1 j2
end
/-! ### a def, seen by its callers -/
structure Cal (P : Program) (w : World) (K : PySem.W.Frag) (mg : Str → Option Value) (base : Heap) (k : Nat) (x : Str) (ps : List Str) (sp : Sp) (X : FuncData → Prop) : Prop where
  ex : ∃ f fd, FnOk P w K mg base CX0 k f fd ps sp ∧ mg x = some (.ref f) ∧ PySem.W.keepIn K (.ref f) = true ∧ Binds K fd ps [] ∧ X fd
theorem Cov.init {F H : Hp} (h : Ex F H) : Cov ⟨H, F, []⟩ F [] H := ⟨h, Evl.Ex.refl F, fun _ hy => absurd hy List.not_mem_nil, List.nodup_nil, fun _ _ _ e => e, fun _ _ e => Or.inl e, fun _ e => e, fun _ hb => absurd hb List.not_mem_nil⟩
theorem em_powC {σ : L2.St} {F : Hp} {cs : Cs} {a b : Int} {n : Nat} (hb : b = (n : Int)) (hn : n ≤ 1000000) (ha : a.natAbs < 2 ^ 64) : EM rInt (tOp (rI CPow fun i j => .int (i ^ j.toNat)) (tC (.int a)) (tC (.int b))) σ F cs (some (a ^ n)) := fun d q c F1 H e k Q hQ => by
  cases q
  subst hb
  exact ⟨a, n, rfl, rfl, ⟨by omega, by omega, ha⟩, hQ _ F1 H (Evl.Ex.refl _) k (by show V.int (a ^ ((n : Int)).toNat) = _; rw [Int.toNat_natCast])⟩
section
variable {α : Type} {ra : Rp α} {σ : L2.St} {F : Hp} {cs : Cs} {te : TE} {K : PySem.W.Frag} {m : Option α}
/-- isinstance(e, T), told by the kind of the data -/
def IsT (K : PySem.W.Frag) (ra : Rp α) (u : Value) (b : α → Bool) : Prop := ∀ F H v a, Ex F H → ra.r F v a → ∃ t, TyX K H v t ∧ PySem.W.kitOne K t u = some (b a)
end
end Mw

set_option maxHeartbeats 2000000
/-! rules of the machine that the hand layer lacks -/
namespace Mw
open PySem PySem.Spec PyProof.Rows L2
open Evl (Ex)
section
variable {prog : Program} {w : World} {A : Around} {E : Value → Shared → Prop} {s : Shared}
end
section
variable {X : Cx}
end
end Mw

set_option maxHeartbeats 2000000
namespace Mw
open PySem L2
open Evl (Ex)
theorem hT {α : Type} {a b c : α} (h : (if true = true then a else b) = c) : a = c := by rw [if_pos rfl] at h; exact h
theorem hF {α : Type} {a b c : α} (h : (if false = true then a else b) = c) : b = c := by rw [if_neg Bool.false_ne_true] at h; exact h
theorem oAnd_tt {a b : Bool} : oAnd (some a) (some b) = some (a && b) := by cases a <;> rfl
theorem oOr_tt {a b : Bool} : oOr (some a) (some b) = some (a || b) := by cases a <;> rfl
def oP2 {α β : Type} (a : Option α) (b : Option β) : Option (α × β) := a.bind fun x => b.bind fun y => some (x, y)
theorem oP2_some {α β : Type} {a : Option α} {b : Option β} {x : α} {y : β} (h : oP2 a b = some (x, y)) : a = some x ∧ b = some y := by
  obtain ⟨p, h1, h⟩ := bind_some h
  obtain ⟨q, h2, h⟩ := bind_some h
  cases h
  exact ⟨h1, h2⟩
def oP3 {α β γ : Type} (a : Option α) (b : Option β) (c : Option γ) : Option (α × β × γ) := a.bind fun x => b.bind fun y => c.bind fun z => some (x, y, z)
theorem nxh {σ : L2.St} {H : Hp} {P : L2.St → Hp → Prop} {rt : VK} {bk ct : L2.St → Hp → Prop} (h : P σ H) : Ends.nx { nx := P, rt := rt, bk := bk, ct := ct } σ H := h
theorem gn {i : Nat} {v : V} {σ : L2.St} {H : Hp} {Q : L2.St → Hp → Prop} {σ1 : L2.St} (e : σ.set i (some v) = σ1) (h : Q σ1 H) : gName i v σ H Q := by
  show Q (σ.set i (some v)) H
  rw [e]
  exact h
section
variable {α β γ ρ : Type} {ra : Rp α} {rb : Rp β} {rc : Rp γ} {σ : L2.St} {F H F' H' : Hp} {cs : Cs} {K : PySem.W.Frag} {te ta tb tc : TE} {t : TT} {tu tw tz : TS} {D : Ends} {c : Act} {d : α} {m : Option α} {x : Cp} {p : Addr} {ds : List α}
/-- an if without else whose way leaves -/
theorem q_ife {b : Bool} {mb : Option Bool} (h : ET t σ F cs mb) (hm : mb = some b) (k : Cov c F cs H) (h1 : b = true → ∀ F2 H2, Ex F F2 → Cov c F2 cs H2 → tu { D with nx := tz D } σ H2) (h2 : b = false → ∀ F2 H2, Ex F F2 → Cov c F2 cs H2 → tz D σ H2) : tSeq (tIfS t tu tNext) tz D σ H := a_if (D := { D with nx := tz D }) h hm k h1 h2
/-! None or a value -/
def NN {α : Type} (ra : Rp α) : Prop := ∀ F v a, ra.r F v a → v ≠ .non
theorem nn_int : NN rInt := fun F v a r e => by cases r; cases e
theorem nn_tup : NN (rTup K ra) := fun F v a r e => by obtain ⟨_, _, rfl, _⟩ := r; cases e
theorem em_opt (n : NN ra) (h : EM ra te σ F cs m) : EM (rOpt ra) te σ F cs (m.map some) := fun d q c F1 H e k Q hQ => by
  cases m with
  | none => cases q
  | some a =>
    cases q
    exact h a rfl c F1 H e k Q fun v F2 H2 e2 k2 r2 => hQ v F2 H2 e2 k2 ⟨n _ _ _ r2, r2⟩
/-! in (a, b, ..) -/
def inG (a : Int) (l : List Int) : Option Bool := some (decide (a ∈ l))
def notInG (a : Int) (l : List Int) : Option Bool := some (!decide (a ∈ l))
theorem inV_int {a : Int} : ∀ {l : List Int}, inV (.int a) (l.map V.int) = decide (a ∈ l)
  | [] => rfl
  | b :: l => by
    have ih := inV_int (a := a) (l := l)
    unfold inV at ih ⊢
    rw [List.map_cons, List.any_cons, ih]
    have e : eqV (V.int b) (V.int a) = decide (a = b) := by
      show (b == a) = decide (a = b)
      by_cases h : a = b
      · subst h; simp
      · rw [decide_eq_false h]; simpa using fun e => h e.symm
    rw [e]
    by_cases h1 : a = b <;> by_cases h2 : a ∈ l <;> simp [h1, h2]
theorem flat_ints : ∀ l : List Int, (l.map V.int).all flatV = true
  | [] => rfl
  | a :: l => by rw [List.map_cons, List.all_cons, flat_ints l] <;> rfl
theorem vo_inT : VO (rIn K false) rInt (rTup K rInt) rBool inG := fun c F cs H v w a b d k r1 r2 q Q hQ => by
  cases r1
  obtain ⟨p, vs, rfl, h1, h2⟩ := r2
  rw [rs_int h2] at h1
  cases q
  refine ⟨p, b.map V.int, rfl, .inr (ext_ k.ex h1), rfl, flat_ints b, ?_⟩
  exact hQ _ F H (Evl.Ex.refl _) k (by show V.bl (if false = true then _ else _) = _; rw [if_neg Bool.false_ne_true, inV_int])
theorem vo_notInT : VO (rIn K true) rInt (rTup K rInt) rBool notInG := fun c F cs H v w a b d k r1 r2 q Q hQ => by
  cases r1
  obtain ⟨p, vs, rfl, h1, h2⟩ := r2
  rw [rs_int h2] at h1
  cases q
  refine ⟨p, b.map V.int, rfl, .inr (ext_ k.ex h1), rfl, flat_ints b, ?_⟩
  exact hQ _ F H (Evl.Ex.refl _) k (by show V.bl (if true = true then _ else _) = _; rw [if_pos rfl, inV_int])
/-! pairs, triples -/
theorem em_tup2 {m1 : Option α} {m2 : Option β} (h1 : EM ra ta σ F cs m1) (h2 : EM rb tb σ F cs m2) : EM (rP2 K ra rb) (tTup (tCons ta (tCons tb tNil))) σ F cs (oP2 m1 m2) := fun d q c F1 H e k Q hQ => by
  obtain ⟨d1, d2⟩ := d
  obtain ⟨q1, q2⟩ := oP2_some q
  refine h1 d1 q1 c F1 H e k _ fun v F2 H2 e2 k2 r2 => h2 d2 q2 c F2 H2 (e.trans e2) k2 _ fun w F3 H3 e3 k3 r3 => ⟨by show 2 ≤ sizeLine; decide, fun p hp => ?_⟩
  have fp := k3.fnone hp
  exact hQ (.ref p) _ _ ((e2.trans e3).trans (Ex.new fp)) (k3.lay hp) ⟨p, v, w, rfl, upd_same, ra.up (e3.trans (Ex.new fp)) r2, rb.up (Ex.new fp) r3⟩
/-! what is told by isinstance -/
/-! ends -/
theorem Cov.last1 (k : Cov c F (cs ++ [(p, x)]) H) : Cov c F [(p, x)] H := by
  have z := k.toHead
  rw [List.append_nil] at z
  exact z.keepN 1
theorem Cov.only (j : Nat) {y : Addr × Cp} (k : Cov c F cs H) (h : cs[j]? = some y) : Cov c F [y] H := by
  obtain ⟨p, x⟩ := y
  obtain ⟨l1, l2, rfl, _⟩ := Cov.split h
  exact k.toHead.keepN 1
end
end Mw
namespace Mw
open PySem L2
theorem gt2 {K : PySem.W.Frag} {i j : Nat} {v w : V} {a : Addr} {σ : L2.St} {H : Hp} {Q : L2.St → Hp → Prop} {σ1 : L2.St} (h : SqT K H a [v, w]) (e : (σ.set i (some v)).set j (some w) = σ1) (q : Q σ1 H) : gTup K 2 (gCons (gName i) (gCons (gName j) gNil)) (.ref a) σ H Q :=
  ⟨a, [v, w], rfl, h, rfl, v, [w], rfl, w, [], rfl, rfl, by rw [e]; exact q⟩
end Mw
namespace Mw
open PySem L2
open Evl (Ex)
theorem Cov.frzL {α : Type} {ra : Rp α} {c : Act} {F H : Hp} {cs : Cs} {p : Addr} {ds : List α} (k : Cov c F cs H) (j : Nat) (hj : cs[j]? = some (p, cLst ra ds)) (hn : c.H0 p = none) : ∃ F2, Ex F F2 ∧ Cov c F2 (cs.eraseIdx j) H ∧ (rLst ra).r F2 (.ref p) ds := by
  obtain ⟨f1, _, o, f3, vs, rfl, f4⟩ := k.at_ j hj
  exact ⟨_, Ex.new f1, k.frzAt j hj f3 hn, p, vs, rfl, upd_same, Rs.up (Ex.new f1) f4⟩
end Mw

set_option maxHeartbeats 2000000
/-! more of the layer: deep equality, tuples joined and cut, zip, enumerate, None or a value -/
namespace Mw
open PySem L2 PyProof RZ
open Evl (Ex)
/-! ### deep equality -/
class Sk (α : Type) where
  ok : α → Bool
instance : Sk Int := ⟨fun _ => true⟩
instance : Sk Bool := ⟨fun _ => true⟩
instance : Sk Unit := ⟨fun _ => true⟩
instance : Sk Str := ⟨fun x => PyData.canLay0 (.str x)⟩
instance {α : Type} [Sk α] : Sk (List α) := ⟨fun l => l.all Sk.ok⟩
instance {α β : Type} [Sk α] [Sk β] : Sk (α × β) := ⟨fun p => Sk.ok p.1 && Sk.ok p.2⟩
instance {α : Type} [Sk α] : Sk (Option α) := ⟨fun o => match o with
  | none => true
  | some a => Sk.ok a⟩
structure Dq (K : PySem.W.Frag) {α : Type} [DecidableEq α] [Sk α] (ra : Rp α) : Type where
  enc : α → PyData
  dep : Nat
  dp : ∀ {H v a}, ra.r H v a → Dp K H v (enc a)
  lay : ∀ a, Sk.ok a = true → (enc a).canLay0 = true
  dpt : ∀ a, (enc a).depth ≤ dep
  inj : ∀ a b, PyData.eqv (enc a) (enc b) = decide (a = b)
section
variable {K : PySem.W.Frag} {α β γ : Type} [DecidableEq α] [Sk α] [DecidableEq β] [Sk β] [DecidableEq γ] [Sk γ] {ra : Rp α} {rb : Rp β} {rc : Rp γ}
def dq_int : Dq K rInt := ⟨.int, 0, fun h => by cases h; exact .int _, fun _ _ => rfl, fun _ => Nat.le_refl _, fun a b => by
  show (a == b) = _
  by_cases h : a = b
  · subst h; simp
  · simp [h]⟩
def dq_str : Dq K rStr := ⟨.str, 0, fun h => by cases h; exact .str _, fun _ h => h, fun _ => Nat.le_refl _, fun a b => by
  show (a == b) = _
  by_cases h : a = b
  · subst h; simp
  · rw [decide_eq_false h]
    simpa using h⟩
theorem dpAll (D : Dq K ra) {H : Hp} : ∀ {vs : List V} {ds : List α}, Rs ra H vs ds → DpAll K H vs (ds.map D.enc)
  | _, _, .nil => .nil
  | _, _, .cons h t => .cons (D.dp h) (dpAll D t)
theorem layAll (D : Dq K ra) : ∀ ds : List α, ds.all Sk.ok = true → PyData.canLayAll0 (ds.map D.enc) = true
  | [], _ => rfl
  | a :: l, h => by
    rw [List.all_cons, Bool.and_eq_true] at h
    rw [List.map_cons, PyData.canLayAll0, D.lay a h.1, layAll D l h.2] <;> rfl
theorem dptAll (D : Dq K ra) : ∀ ds : List α, PyData.depthAll (ds.map D.enc) ≤ D.dep
  | [] => Nat.zero_le _
  | a :: l => by
    rw [List.map_cons, PyData.depthAll]
    exact Nat.max_le.mpr ⟨D.dpt a, dptAll D l⟩
theorem injAll (D : Dq K ra) : ∀ a b : List α, PyData.eqvAll (a.map D.enc) (b.map D.enc) = decide (a = b)
  | [], [] => rfl
  | [], _ :: _ => rfl
  | _ :: _, [] => rfl
  | a :: l, b :: m => by
    rw [List.map_cons, List.map_cons, PyData.eqvAll, D.inj, injAll D l m]
    by_cases h1 : a = b <;> by_cases h2 : l = m <;> simp [h1, h2]
def dq_tup (D : Dq K ra) : Dq K (rTup K ra) := ⟨fun l => .tuple (l.map D.enc), D.dep + 1, fun h => by
  obtain ⟨a, vs, rfl, h1, h2⟩ := h
  exact .tup (SqT.of h1) (dpAll D h2), fun l h => layAll D l h, fun l => by
  rw [PyData.depth]
  exact Nat.succ_le_succ (dptAll D l), fun a b => injAll D a b⟩
def dq_lst (D : Dq K ra) : Dq K (rLst ra) := ⟨fun l => .list (l.map D.enc), D.dep + 1, fun h => by
  obtain ⟨a, vs, rfl, h1, h2⟩ := h
  exact .lst (SqL.of h1) (dpAll D h2), fun l h => layAll D l h, fun l => by
  rw [PyData.depth]
  exact Nat.succ_le_succ (dptAll D l), fun a b => injAll D a b⟩
def dq_opt (D : Dq K ra) (n : ∀ a, PyData.eqv .none (D.enc a) = false ∧ PyData.eqv (D.enc a) .none = false) : Dq K (rOpt ra) := ⟨fun o => match o with
  | none => .none
  | some a => D.enc a, D.dep, fun {H v a} h => match a, h with
  | none, h => by
    have h : v = .non := h
    subst h
    exact .non
  | some a, h => D.dp h.2, fun a h => match a, h with
  | none, h => rfl
  | some a, h => D.lay a h, fun a => match a with
  | none => Nat.zero_le _
  | some a => D.dpt a, fun a b => match a, b with
  | none, none => rfl
  | none, some b => (n b).1
  | some a, none => (n a).2
  | some a, some b => by
    show PyData.eqv (D.enc a) (D.enc b) = _
    rw [D.inj]
    by_cases h : a = b <;> simp [h]⟩
def eqDG (a b : α) : Option Bool := if Sk.ok a = true ∧ Sk.ok b = true then some (decide (a = b)) else none
def neDG (a b : α) : Option Bool := if Sk.ok a = true ∧ Sk.ok b = true then some (!decide (a = b)) else none
def inDG (a : α) (l : List α) : Option Bool := if Sk.ok a = true ∧ Sk.ok l = true then some (decide (a ∈ l)) else none
def notInDG (a : α) (l : List α) : Option Bool := if Sk.ok a = true ∧ Sk.ok l = true then some (!decide (a ∈ l)) else none
theorem dp_ex {H H' : Hp} (e : Ex H H') (D : Dq K ra) {v : V} {a : α} (r : ra.r H v a) : Dp K H' v (D.enc a) := D.dp (ra.up e r)
theorem Dq.shaped (D : Dq K ra) (hd : D.dep ≤ 64) {a : α} (h : Sk.ok a = true) : SeqAt.shaped (D.enc a) = true := by
  unfold SeqAt.shaped
  rw [D.lay a h, decide_eq_true (Nat.le_trans (D.dpt a) hd)] <;> rfl
theorem vo_eqD (D : Dq K ra) (hd : D.dep ≤ 64) : VO (rEqD K) ra ra rBool eqDG := fun c F cs H v w a b d k r1 r2 q Q hQ => by
  unfold eqDG at q
  split at q
  · rename_i g
    cases q
    exact ⟨D.enc a, D.enc b, dp_ex k.ex D r1, dp_ex k.ex D r2, D.shaped hd g.1, D.shaped hd g.2, hQ _ F H (Evl.Ex.refl _) k (by rw [D.inj] <;> rfl)⟩
  · cases q
theorem vo_neD (D : Dq K ra) (hd : D.dep ≤ 64) : VO (rNeD K) ra ra rBool neDG := fun c F cs H v w a b d k r1 r2 q Q hQ => by
  unfold neDG at q
  split at q
  · rename_i g
    cases q
    exact ⟨D.enc a, D.enc b, dp_ex k.ex D r1, dp_ex k.ex D r2, D.shaped hd g.1, D.shaped hd g.2, hQ _ F H (Evl.Ex.refl _) k (by rw [D.inj] <;> rfl)⟩
  · cases q
theorem anyD (D : Dq K ra) (a : α) : ∀ l : List α, ((l.map D.enc).any fun z => PyData.eqv z (D.enc a)) = decide (a ∈ l)
  | [] => rfl
  | b :: l => by
    rw [List.map_cons, List.any_cons, anyD D a l, D.inj]
    by_cases h1 : b = a
    · subst h1; simp
    · have h3 : ¬ a = b := fun e => h1 e.symm
      by_cases h2 : a ∈ l <;> simp [h1, h2, h3]
theorem lsD (D : Dq K ra) (hd : D.dep ≤ 63) {l : List α} (h : Sk.ok l = true) : SeqAt.shaped (.list (l.map D.enc)) = true := (dq_lst D).shaped (show D.dep + 1 ≤ 64 by omega) h
/-- x in [..] -/
theorem em_inD {te tb : TE} {σ : L2.St} {F : Hp} {cs : Cs} {ma : Option α} {ml : Option (List α)} (D : Dq K ra) (hd : D.dep ≤ 63) (h : EM ra te σ F cs ma) (hl : EL K ra tb σ F cs ml) : EM rBool (tOp (rInD K) te tb) σ F cs (o2 inDG ma ml) := fun d q c F1 H e k Q hQ => by
  obtain ⟨a, b, q1, q2, q3⟩ := o2_some q
  refine h a q1 c F1 H e k _ fun v F2 H2 e2 k2 r2 => hl b q2 c F2 H2 (e.trans e2) k2 _ fun w F3 H3 e3 k3 r3 => ?_
  obtain ⟨p, vs, rfl, h1, h2⟩ := r3.see k3
  unfold inDG at q3
  split at q3
  · rename_i g
    cases q3
    exact ⟨D.enc a, b.map D.enc, dp_ex (e3.trans k3.ex) D r2, .lst h1 (dpAll D (Rs.up k3.ex h2)), D.shaped (by omega) g.1, lsD D hd g.2, hQ _ F3 H3 (e2.trans e3) k3 (by rw [anyD] <;> rfl)⟩
  · cases q3
theorem em_notInD {te tb : TE} {σ : L2.St} {F : Hp} {cs : Cs} {ma : Option α} {ml : Option (List α)} (D : Dq K ra) (hd : D.dep ≤ 63) (h : EM ra te σ F cs ma) (hl : EL K ra tb σ F cs ml) : EM rBool (tOp (rNotInD K) te tb) σ F cs (o2 notInDG ma ml) := fun d q c F1 H e k Q hQ => by
  obtain ⟨a, b, q1, q2, q3⟩ := o2_some q
  refine h a q1 c F1 H e k _ fun v F2 H2 e2 k2 r2 => hl b q2 c F2 H2 (e.trans e2) k2 _ fun w F3 H3 e3 k3 r3 => ?_
  obtain ⟨p, vs, rfl, h1, h2⟩ := r3.see k3
  unfold notInDG at q3
  split at q3
  · rename_i g
    cases q3
    exact ⟨D.enc a, b.map D.enc, dp_ex (e3.trans k3.ex) D r2, .lst h1 (dpAll D (Rs.up k3.ex h2)), D.shaped (by omega) g.1, lsD D hd g.2, hQ _ F3 H3 (e2.trans e3) k3 (by rw [anyD] <;> rfl)⟩
  · cases q3
end
section
variable {α β γ : Type} {ra : Rp α} {rb : Rp β} {σ : L2.St} {F H : Hp} {cs : Cs} {K : PySem.W.Frag} {te ta tb : TE}
/-! ### tuples joined, cut, repeated -/
/-! ### max of a list of whole numbers -/
/-! ### None or a value -/
theorem em_isN {m : Option (Option α)} (h : EM (rOpt ra) te σ F cs m) : EM rBool (tOp (fun x y H Q => y = .non ∧ Q (.bl (decide (x = .non))) H) te (tC .non)) σ F cs (m.map Option.isNone) := fun d q c F1 H e k Q hQ => by
  cases m with
  | none => cases q
  | some o =>
    cases q
    refine h o rfl c F1 H e k _ fun v F2 H2 e2 k2 r2 => ⟨rfl, ?_⟩
    refine hQ _ F2 H2 e2 k2 ?_
    cases o with
    | none =>
      have r2 : v = .non := r2
      rw [decide_eq_true r2] <;> rfl
    | some a => rw [decide_eq_false r2.1] <;> rfl
theorem em_notN {m : Option (Option α)} (h : EM (rOpt ra) te σ F cs m) : EM rBool (tOp (fun x y H Q => y = .non ∧ Q (.bl (!decide (x = .non))) H) te (tC .non)) σ F cs (m.map Option.isSome) := fun d q c F1 H e k Q hQ => by
  cases m with
  | none => cases q
  | some o =>
    cases q
    refine h o rfl c F1 H e k _ fun v F2 H2 e2 k2 r2 => ⟨rfl, ?_⟩
    refine hQ _ F2 H2 e2 k2 ?_
    cases o with
    | none =>
      have r2 : v = .non := r2
      rw [decide_eq_true r2] <;> rfl
    | some a => rw [decide_eq_false r2.1] <;> rfl
/-- a value that is not None here -/
theorem em_unO {m : Option (Option α)} (h : EM (rOpt ra) te σ F cs m) : EM ra te σ F cs (m.bind fun o => o) := fun d q c F1 H e k Q hQ => by
  obtain ⟨o, q1, q2⟩ := bind_some q
  subst q2
  exact h _ q1 c F1 H e k Q fun v F2 H2 e2 k2 r2 => hQ v F2 H2 e2 k2 r2.2
/-! ### zip, enumerate -/
end
section
variable {α β γ δ : Type} {ra : Rp α} {rb : Rp β} {rc : Rp γ} {σ : L2.St} {F H : Hp} {cs : Cs} {K : PySem.W.Frag} {te ta tb : TE} {tz : TS} {D : Ends} {c : Act}
theorem un65 {k : Nat} {A : Around} (r : Room k A) : A.units + 65 < cLine := by have := r.un; omega
/-! a, b = e -/
theorem a_unp2S {cs' : δ → Cs} {g : δ} {i j : Nat} {d : α × β} {m : Option ((α × β) × δ)} (h : SM (rP2 K ra rb) te σ F cs m cs') (hm : m = some (d, g)) (k : Cov c F cs H) (n : ∀ v w F2 H2, Ex F F2 → Cov c F2 (cs' g) H2 → ra.r F2 v d.1 → rb.r F2 w d.2 → D.nx ((σ.set i (some v)).set j (some w)) H2) : tAsg te (gTup K 2 (gCons (gName i) (gCons (gName j) gNil))) D σ H :=
  h d g hm c F H (Evl.Ex.refl _) k _ fun v F2 H2 e2 k2 r2 => by
    obtain ⟨a, v1, v2, rfl, h1, h2, h3⟩ := r2
    exact ⟨a, [v1, v2], rfl, ext_ k2.ex h1, rfl, v1, [v2], rfl, v2, [], rfl, rfl, n v1 v2 F2 H2 e2 k2 h2 h3⟩
theorem q_unp2S {cs' : δ → Cs} {g : δ} {i j : Nat} {d : α × β} {m : Option ((α × β) × δ)} (h : SM (rP2 K ra rb) te σ F cs m cs') (hm : m = some (d, g)) (k : Cov c F cs H) (n : ∀ v w F2 H2, Ex F F2 → Cov c F2 (cs' g) H2 → ra.r F2 v d.1 → rb.r F2 w d.2 → tz D ((σ.set i (some v)).set j (some w)) H2) : tSeq (tAsg te (gTup K 2 (gCons (gName i) (gCons (gName j) gNil)))) tz D σ H := a_unp2S (D := { D with nx := tz D }) h hm k n
/-! a pair made while the cell is followed -/
theorem sm_tup2 {cs : δ → Cs} {s : δ} {m1 : Option (α × δ)} {m2 : δ → Option (β × δ)} (h1 : SM ra ta σ F (cs s) m1 cs) (h2 : ∀ s, SM rb tb σ F (cs s) (m2 s) cs) : SM (rP2 K ra rb) (tTup (tCons ta (tCons tb tNil))) σ F (cs s) (s2 (fun a b s => some ((a, b), s)) m1 m2) cs := fun d g q c F1 H e k Q hQ => by
  unfold s2 at q
  obtain ⟨a, g1, q1, q⟩ := sC_some q
  obtain ⟨b, g2, q2, q⟩ := sC_some q
  cases q
  refine h1 a g1 q1 c F1 H e k _ fun v F2 H2 e2 k2 r2 => h2 g1 b _ q2 c F2 H2 (e.trans e2) k2 _ fun w F3 H3 e3 k3 r3 => ⟨by show 2 ≤ sizeLine; decide, fun p hp => ?_⟩
  have fp := k3.fnone hp
  exact hQ (.ref p) _ _ ((e2.trans e3).trans (Ex.new fp)) (k3.lay hp) ⟨p, v, w, rfl, upd_same, ra.up (e3.trans (Ex.new fp)) r2, rb.up (Ex.new fp) r3⟩
/-- xs[i], xs[l] = e1, e2 -/
theorem a_swap {i j : Nat} {p : Addr} {ds ds1 ds2 : List α} {d : α × α} {ix iy : Int} {m : Option (α × α)} {mi mj : Option Int} {ti tj : TE} (hx : σ[i]? = some (some (.ref p))) (hj : cs[j]? = some (p, cLst ra ds)) (h : EM (rP2 K ra ra) te σ F cs m) (hi : ∀ cs, EM rInt ti σ F cs mi) (hy : ∀ cs, EM rInt tj σ F cs mj) (hm : m = some d) (hmi : mi = some ix) (hmj : mj = some iy) (hs1 : setG ds ix d.1 = some ds1) (hs2 : setG ds1 iy d.2 = some ds2) (k : Cov c F cs H)
    (n : ∀ F2 H2, Ex F F2 → Cov c F2 (cs.set j (p, cLst ra ds2)) H2 → D.nx σ H2) : tAsg te (gTup K 2 (gCons (gSub (tVar i) ti rSetL) (gCons (gSub (tVar i) tj rSetL) gNil))) D σ H := by
  refine h d hm c F H (Evl.Ex.refl _) k _ fun v F2 H2 e2 k2 r2 => ?_
  obtain ⟨a, v1, v2, rfl, h1, h2, h3⟩ := r2
  refine ⟨a, [v1, v2], rfl, ext_ k2.ex h1, rfl, v1, [v2], rfl, _, hx, hi cs ix hmi c F2 H2 e2 k2 _ fun w F3 H3 e3 k3 r3 => ?_⟩
  cases r3
  obtain ⟨_, _, o, g3, vs, rfl, g4⟩ := k3.at_ j hj
  unfold setG at hs1 hs2
  cases q : ixN ds.length ix with
  | none => rw [q] at hs1; cases hs1
  | some jj =>
    rw [q] at hs1
    cases hs1
    have k4 := k3.set (o := .lst (vs.set jj v1)) (x' := cLst ra (ds.set jj d.1)) j hj ⟨_, rfl, g4.set jj (ra.up e3 h2)⟩
    refine ⟨p, vs, ix, jj, rfl, rfl, g3, by rw [g4.length]; exact q, v2, [], rfl, _, hx, hy _ iy hmj c F3 _ (e2.trans e3) k4 _ fun w F5 H5 e5 k5 r5 => ?_⟩
    cases r5
    have hl : j < cs.length := (List.getElem?_eq_some_iff.mp hj).1
    have hj2 : (cs.set j (p, cLst ra (ds.set jj d.1)))[j]? = some (p, cLst ra (ds.set jj d.1)) := by rw [List.getElem?_set_self hl]
    obtain ⟨_, _, o, g5, ws, rfl, g6⟩ := k5.at_ j hj2
    cases q2 : ixN (ds.set jj d.1).length iy with
    | none => rw [q2] at hs2; cases hs2
    | some kk =>
      rw [q2] at hs2
      cases hs2
      have k6 := k5.set (o := .lst (ws.set kk v2)) (x' := cLst ra ((ds.set jj d.1).set kk d.2)) j hj2 ⟨_, rfl, g6.set kk (ra.up (e3.trans e5) h3)⟩
      rw [List.set_set] at k6
      exact ⟨p, ws, iy, kk, rfl, rfl, g5, by rw [g6.length]; exact q2, rfl, n F5 _ ((e2.trans e3).trans e5) k6⟩
end

/-! lists joined, each of them only read -/
section
variable {α : Type} {ra : Rp α} {σ : L2.St} {F H : Hp} {cs : Cs} {K : PySem.W.Frag} {ta tb : TE}
end
end Mw

set_option maxHeartbeats 2000000
/-! sums, least, any, all; starred tuples; comprehensions of two fors; lists made longer in place -/
namespace Mw
open PySem L2 StX
open Evl (Ex)
def minL : List Int → Option Int
  | [] => none
  | a :: l => some (l.foldl min a)
theorem foldl_min (l : List Int) : ∀ a : Int, (∀ y ∈ a :: l, l.foldl min a ≤ y) ∧ l.foldl min a ∈ a :: l := by
  induction l with
  | nil => intro a; exact ⟨fun y hy => by simp at hy; subst hy; exact Int.le_refl _, List.mem_cons_self⟩
  | cons b l ih =>
    intro a
    obtain ⟨h1, h2⟩ := ih (min a b)
    have hm := h1 _ List.mem_cons_self
    refine ⟨fun y hy => ?_, ?_⟩
    · show l.foldl min (min a b) ≤ y
      rcases List.mem_cons.mp hy with rfl | hy
      · omega
      · rcases List.mem_cons.mp hy with rfl | hy
        · omega
        · exact h1 y (List.mem_cons_of_mem _ hy)
    · show l.foldl min (min a b) ∈ a :: b :: l
      rcases List.mem_cons.mp h2 with h | h
      · rw [h]
        by_cases q : a ≤ b
        · rw [Int.min_eq_left q]; simp
        · rw [Int.min_eq_right (by omega)]; simp
      · exact List.mem_cons_of_mem _ (List.mem_cons_of_mem _ h)
section
variable {α β γ : Type} {ra : Rp α} {rb : Rp β} {rc : Rp γ} {σ : L2.St} {F H : Hp} {cs : Cs} {K : PySem.W.Frag} {te ta tb : TE} {D : Ends} {c : Act} {tz : TS}
theorem em_minL {m : Option (List Int)} (h : EL K rInt te σ F cs m) : EM rInt (tCB (rMin K) (tCons te tNil)) σ F cs (o1 minL m) := fun d q c F1 H e k Q hQ => by
  obtain ⟨l, q1, q2⟩ := o1_some q
  refine h l q1 c F1 H e k _ fun v F2 H2 e2 k2 r2 => ?_
  obtain ⟨a, vs, rfl, h1, h2⟩ := r2.see k2
  rw [rs_int h2] at h1
  cases l with
  | nil => cases q2
  | cons x l =>
    cases q2
    refine ⟨a, x :: l, rfl, h1, Nat.succ_pos _, fun m hm hy => ?_⟩
    obtain ⟨g1, g2⟩ := foldl_min l x
    have e1 : m = l.foldl min x := Int.le_antisymm (hy _ g2) (g1 m hm)
    exact hQ _ F2 H2 e2 k2 (by rw [e1] <;> rfl)
theorem em_sumL {m : Option (List Int)} (h : EL K rInt te σ F cs m) : EM rInt (tCB (rSum K) (tCons te tNil)) σ F cs (m.map List.sum) := fun d q c F1 H e k Q hQ => by
  cases m with
  | none => cases q
  | some l =>
    cases q
    refine h l rfl c F1 H e k _ fun v F2 H2 e2 k2 r2 => ?_
    obtain ⟨a, vs, rfl, h1, h2⟩ := r2.see k2
    rw [rs_int h2] at h1
    exact ⟨a, l, rfl, h1, hQ _ F2 H2 e2 k2 rfl⟩
/-! t[lo:hi] -/
/-! *xs in a display -/
def oApp {α : Type} (a l : Option (List α)) : Option (List α) := a.bind fun x => l.bind fun r => some (x ++ r)
/-! xs.extend(ys) -/
def extG {α : Type} (l z : List α) : Option (List α) := if l.length + z.length ≤ 16000000 then some (l ++ z) else none
theorem a_ext {i j : Nat} {p : Addr} {ds ds' zs : List α} {m : Option (List α)} (hx : σ[i]? = some (some (.ref p))) (hj : cs[j]? = some (p, cLst ra ds)) (h : ES ra te σ F cs m) (hm : m = some zs) (hz : extG ds zs = some ds') (k : Cov c F cs H)
    (n : ∀ F2 H2, Ex F F2 → Cov c F2 (cs.set j (p, cLst ra ds')) H2 → D.nx σ H2) : tDrop (tBM K "list" rExtend (tVar i) (tCons te tNil)) D σ H := by
  obtain ⟨rfl, hl⟩ := catG_some (a := ds) (b := zs) hz
  refine ⟨_, hx, ?_, ?_⟩
  · obtain ⟨_, _, o, h3, vs, rfl, h4⟩ := k.at_ j hj
    exact .inl ⟨rfl, _, SqL.of h3⟩
  · refine h zs hm c F H (Evl.Ex.refl _) k _ fun v F2 H2 e2 k2 r2 => ?_
    obtain ⟨_, _, o, g3, vs, rfl, g4⟩ := k2.at_ j hj
    obtain ⟨b, ws, rfl, h3, h4⟩ := r2.see k2
    exact ⟨p, b, vs, ws, rfl, rfl, g3, h3, by rw [g4.length, h4.length]; exact sz_ok hl, n F2 _ e2 (k2.set j hj ⟨_, rfl, g4.append h4⟩)⟩
theorem q_ext {i j : Nat} {p : Addr} {ds ds' zs : List α} {m : Option (List α)} (hx : σ[i]? = some (some (.ref p))) (hj : cs[j]? = some (p, cLst ra ds)) (h : ES ra te σ F cs m) (hm : m = some zs) (hz : extG ds zs = some ds') (k : Cov c F cs H)
    (n : ∀ F2 H2, Ex F F2 → Cov c F2 (cs.set j (p, cLst ra ds')) H2 → tz D σ H2) : tSeq (tDrop (tBM K "list" rExtend (tVar i) (tCons te tNil))) tz D σ H := a_ext (D := { D with nx := tz D }) hx hj h hm hz k n
/-! ### [e for x in xs if .. for y in ys if ..] -/
end
/-! ### a walk whose expression changes the followed cell -/
def SI {α γ : Type} (ra : Rp α) (wi : TI) (σ : L2.St) (F : Hp) (cs : Cs) (m : Option (List α × γ)) (cs' : γ → Cs) : Prop := ∀ ds g, m = some (ds, g) → ∀ c F1 H, Ex F F1 → Cov c F1 cs H → ∀ R : It → Hp → Prop, (∀ J F2 H2, Ex F1 F2 → Cov c F2 (cs' g) H2 → Goes J F2 ra ds → R J H2) → wi σ H R
section
variable {α β γ ρ δ : Type} {ra : Rp α} {rb : Rp β} {σ : L2.St} {F H : Hp} {wi : TI} {g : TG} {tb : TS} {D : Ends} {c : Act} {cs : Cs} {m : Option (List α)} {ds : List α}
theorem a_forG {f : α → γ → Option γ} {g0 g1 : γ} (hwx : ∀ R : It → Hp → Prop, (∀ J F2 H2, Ex F F2 → Cov c F2 cs H2 → Goes J F2 ra ds → R J H2) → wi σ H R) (hf : oFold f ds g0 = some g1)
    (n : ∀ F2 H2, Ex F F2 → Cov c F2 cs H2 → ∃ (J : Inva γ) (cj : γ → Cs), J g0 σ F2 H2 ∧ (∀ x σ' F' H', J x σ' F' H' → Ex F2 F' ∧ Cov c F' (cj x) H') ∧
      (∀ d v x x' σ' F' H' F3 H3, J x σ' F' H' → Ex F' F3 → Cov c F3 (cj x) H3 → ra.r F3 v d → f d x = some x' →
        g v σ' H3 fun σ2 H4 => tb { D with nx := fun σ' H' => ∃ F', J x' σ' F' H', ct := fun σ' H' => ∃ F', J x' σ' F' H', bk := D.nx } σ2 H4) ∧
      (∀ σ' F' H', J g1 σ' F' H' → D.nx σ' H')) : tFor wi g tb D σ H := by
  refine hwx _ fun J0 F2 H2 e2 k2 G => ?_
  obtain ⟨J, cj, j0, stay, turn, fin⟩ := n F2 H2 e2 k2
  refine ⟨fun i m σ H => m = ds.length - i ∧ i ≤ ds.length ∧ ∃ x F', oFold f (ds.drop i) x = some g1 ∧ J x σ F' H, ⟨ds.length, by simp, Nat.zero_le _, g0, F2, hf, j0⟩, ?_⟩
  rintro i m σ H ⟨rfl, hi, x, F', hx, jx⟩
  obtain ⟨e3, k3⟩ := stay _ _ _ _ jx
  by_cases hlt : i < ds.length
  · have hd : ds[i]? = some ds[i] := by simp [hlt]
    obtain ⟨g1', g2⟩ := G.go i _ hd c F' _ H e3 k3
    rw [fold_drop hd] at hx
    obtain ⟨x', h1, h2⟩ := bind_some hx
    refine .inr ⟨g1', fun σ' H' => ∃ F', J x' σ' F' H', fun σ' H' ⟨F'', j'⟩ => ⟨ds.length - (i + 1), by omega, rfl, hlt, x', F'', h2, j'⟩, fun v H' y => ?_⟩
    obtain ⟨F4, e4, c4, r4⟩ := g2 v H' y
    exact turn _ v x x' σ F' H F4 H' jx e4 (c4 c _ k3) r4 h1
  · have e : i = ds.length := by omega
    subst e
    rw [List.drop_length] at hx
    cases hx
    exact .inl ⟨G.stop c F' _ H e3 k3, fin σ F' H jx⟩
theorem a_forS {cs' : δ → Cs} {gg : δ} {mS : Option (List α × δ)} {f : α → γ → Option γ} {g0 g1 : γ} (hw : SI ra wi σ F cs mS cs') (hm : mS = some (ds, gg)) (k : Cov c F cs H) (hf : oFold f ds g0 = some g1)
    (n : ∀ F2 H2, Ex F F2 → Cov c F2 (cs' gg) H2 → ∃ (J : Inva γ) (cj : γ → Cs), J g0 σ F2 H2 ∧ (∀ x σ' F' H', J x σ' F' H' → Ex F2 F' ∧ Cov c F' (cj x) H') ∧
      (∀ d v x x' σ' F' H' F3 H3, J x σ' F' H' → Ex F' F3 → Cov c F3 (cj x) H3 → ra.r F3 v d → f d x = some x' →
        g v σ' H3 fun σ2 H4 => tb { D with nx := fun σ' H' => ∃ F', J x' σ' F' H', ct := fun σ' H' => ∃ F', J x' σ' F' H', bk := D.nx } σ2 H4) ∧
      (∀ σ' F' H', J g1 σ' F' H' → D.nx σ' H')) : tFor wi g tb D σ H := a_forG (fun R hR => hw ds gg hm c F H (Evl.Ex.refl _) k R hR) hf n
end
section
variable {α β γ : Type} {ra : Rp α} {rb : Rp β} {σ : L2.St} {F H : Hp} {cs : γ → Cs} {s : γ} {K : PySem.W.Frag} {te ta tb : TE} {wi : TI} {g : TG} {tt : TT} {vs : List Nat}
theorem si_rng1 {m : Option (Int × γ)} (h : SM rInt te σ F (cs s) m cs) : SI rInt (iRng1 (tCons te tNil)) σ F (cs s) (s1 (fun a s => sK s (rngG a)) m) cs := fun ds gg q c F1 H e k R hR => by
  unfold s1 at q
  obtain ⟨j, g1, q1, q⟩ := sC_some q
  obtain ⟨q2, eg⟩ := sP_some q
  subst eg
  unfold rngG at q2
  split at q2
  · rename_i g
    cases q2
    refine h j _ q1 c F1 H e k _ fun v F2 H2 e2 k2 r2 => ?_
    cases r2
    have z := hR (Itr 0 (j - 0).toNat) F2 H2 e2 k2 goes_rng
    rw [Int.sub_zero] at z
    exact ⟨j, rfl, g.1, g.2, z⟩
  · cases q2
end
section
variable {α β γ : Type} {ra : Rp α} {rb : Rp β} {σ : L2.St} {F H : Hp} {K : PySem.W.Frag} {te : TE} {wi : TI} {g : TG} {vs : List Nat}
end
section
variable {α β γ δ : Type} {ra : Rp α} {rb : Rp β} {σ : L2.St} {F H : Hp} {cs : δ → Cs} {s g : δ} {c : Act} {te ti : TE} {D : Ends} {tz : TS}
/-- xs[i] = v, both changing the followed cell -/
theorem a_subS {i j : Nat} {p : Addr} {d : α} {ds ds' : List α} {ix : Int} {m : Option (α × δ)} {mi : δ → Option (Int × δ)} (hx : σ[i]? = some (some (.ref p))) (hj : ∀ s, (cs s)[j]? = some (p, cLst ra ds)) (h : SM ra te σ F (cs s) m cs) (hi : ∀ s, SM rInt ti σ F (cs s) (mi s) cs) (hm : s2 (fun a b s => some ((a, b), s)) m mi = some ((d, ix), g)) (hset : setG ds ix d = some ds') (k : Cov c F (cs s) H)
    (n : ∀ F2 H2, Ex F F2 → Cov c F2 ((cs g).set j (p, cLst ra ds')) H2 → D.nx σ H2) : tAsg te (gSub (tVar i) ti rSetL) D σ H := by
  unfold s2 at hm
  obtain ⟨a, g1, q1, q⟩ := sC_some hm
  obtain ⟨b, g2, q2, q⟩ := sC_some q
  cases q
  refine h d g1 q1 c F H (Evl.Ex.refl _) k _ fun v F2 H2 e2 k2 r2 => ?_
  refine ⟨_, hx, hi g1 ix g q2 c F2 H2 e2 k2 _ fun w F3 H3 e3 k3 r3 => ?_⟩
  cases r3
  obtain ⟨_, _, o, h3, vs, rfl, h4⟩ := k3.at_ j (hj g)
  unfold setG at hset
  cases q : ixN ds.length ix with
  | none => rw [q] at hset; cases hset
  | some jj =>
    rw [q] at hset
    cases hset
    exact ⟨p, vs, ix, jj, rfl, rfl, h3, by rw [h4.length]; exact q, n F3 _ (e2.trans e3) (k3.set j (hj g) ⟨_, rfl, h4.set jj (ra.up e3 r2)⟩)⟩
theorem q_subS {i j : Nat} {p : Addr} {d : α} {ds ds' : List α} {ix : Int} {m : Option (α × δ)} {mi : δ → Option (Int × δ)} (hx : σ[i]? = some (some (.ref p))) (hj : ∀ s, (cs s)[j]? = some (p, cLst ra ds)) (h : SM ra te σ F (cs s) m cs) (hi : ∀ s, SM rInt ti σ F (cs s) (mi s) cs) (hm : s2 (fun a b s => some ((a, b), s)) m mi = some ((d, ix), g)) (hset : setG ds ix d = some ds') (k : Cov c F (cs s) H)
    (n : ∀ F2 H2, Ex F F2 → Cov c F2 ((cs g).set j (p, cLst ra ds')) H2 → tz D σ H2) : tSeq (tAsg te (gSub (tVar i) ti rSetL)) tz D σ H := a_subS (D := { D with nx := tz D }) hx hj h hi hm hset k n
end
/-! range(a, b) of any whole numbers: the model keeps two kinds of iterator -/
section
open PySem.Spec PyProof.Rows
variable {X : Cx} {tg : Expr}
end
def rngW (lo hi : Int) : Option (List Int) := some (rngL lo hi)
section
variable {σ : L2.St} {F H : Hp} {te tb : TE}
end
/-! in place: x *= e, xs[i] -= e -/
section
open PySem.Spec PyProof.Rows
variable {X : Cx}
end
section
variable {σ : L2.St} {F H : Hp} {cs : Cs} {K : PySem.W.Frag} {te ti : TE} {D : Ends} {c : Act} {tz : TS}
/-! range(a, b, c) -/
/-! a op b op c -/
end
/-! the rules, the known part of the heap named -/
section
variable {X : Cx} (K : PySem.W.Frag) (h : X.K = K)
include h
theorem ix_tupK : IxR X (rIxT K) := h ▸ ix_tup
theorem ix_listK : IxR X (rIxL K) := h ▸ ix_list
theorem sl_listK : SlR X (rSlL K) := h ▸ sl_list
theorem op_in_seqK : OpR X (compareOp .In) (rIn K false) := h ▸ op_in_seq
theorem op_notIn_seqK : OpR X (compareOp .NotIn) (rIn K true) := h ▸ op_notIn_seq
theorem op_inDK (hu : X.A.units + 65 < cLine) : OpR X (compareOp .In) (rInD K) := h ▸ op_inD hu
theorem op_notInDK (hu : X.A.units + 65 < cLine) : OpR X (compareOp .NotIn) (rNotInD K) := h ▸ op_notInD hu
theorem op_eqDK (hu : X.A.units + 64 < cLine) : OpR X (compareOp .Eq) (rEqD K) := h ▸ op_eqD hu
theorem op_neDK (hu : X.A.units + 64 < cLine) : OpR X (compareOp .NotEq) (rNeD K) := h ▸ op_neD hu
theorem cr_minK2 (hc : X.calm = true) : CallR X (.builtin "min") (rMin K) := h ▸ cr_min hc
theorem cr_sumK (hc : X.calm = true) : CallR X (.builtin "sum") (rSum K) := h ▸ cr_sum hc
theorem call_isiK2 : CallR X (.builtin "isinstance") (rIsi K) := h ▸ call_isi
theorem call_len_seqK : CallR X (.builtin "len") (fun xs H Q => ∃ p ys, xs = [.ref p] ∧ (SqL K H p ys ∨ SqT K H p ys) ∧ Q (.int ys.length) H) := h ▸ call_len_seq
theorem call_tuple_ofK : CallR X (.type "tuple") (fun xs H Q => ∃ p ys, xs = [.ref p] ∧ ((SqL K H p ys ∧ ∀ l, H l = none → Q (.ref l) (upd H l (.tup ys))) ∨ (SqT K H p ys ∧ Q (.ref p) H))) := h ▸ call_tuple_of
theorem call_list_ofK : CallR X (.type "list") (fun xs H Q => ∃ p ys, xs = [.ref p] ∧ (SqL K H p ys ∨ SqT K H p ys) ∧ ∀ l, H l = none → Q (.ref l) (upd H l (.lst ys))) := h ▸ call_list_of
theorem pi_listK {tg l : Expr} {tl : TE} (hl : PE X l tl) : PI X tg l (iList K tl) := h ▸ pi_list hl
theorem pi_tupK {tg l : Expr} {tl : TE} (hl : PE X l tl) : PI X tg l (iTup K tl) := h ▸ pi_tup hl
end
section
variable {σ : L2.St} {F : Hp} {cs : Cs}
theorem em_Pcall1t {α1 ρ : Type} {r1 : Rp α1} {rr : Rp ρ} {E : XK} {t1 : TE} {m : α1 → Option (ρ)} {a1 : α1} (h1 : EM r1 t1 σ F cs (some a1)) : EM rr (tCall (Psp1 r1 rr m) [] E (tCons t1 tNil)) σ F cs (m a1) := em_Pcall1 h1
theorem em_Pcall2t {α1 α2 ρ : Type} {r1 : Rp α1} {r2 : Rp α2} {rr : Rp ρ} {E : XK} {t1 t2 : TE} {m : α1 → α2 → Option (ρ)} {a1 : α1} {a2 : α2} (h1 : EM r1 t1 σ F cs (some a1)) (h2 : EM r2 t2 σ F cs (some a2)) : EM rr (tCall (Psp2 r1 r2 rr m) [] E (tCons t1 (tCons t2 tNil))) σ F cs (m a1 a2) := em_Pcall2 h1 h2
theorem em_Pcall4t {α1 α2 α3 α4 ρ : Type} {r1 : Rp α1} {r2 : Rp α2} {r3 : Rp α3} {r4 : Rp α4} {rr : Rp ρ} {E : XK} {t1 t2 t3 t4 : TE} {m : α1 → α2 → α3 → α4 → Option (ρ)} {a1 : α1} {a2 : α2} {a3 : α3} {a4 : α4} (h1 : EM r1 t1 σ F cs (some a1)) (h2 : EM r2 t2 σ F cs (some a2)) (h3 : EM r3 t3 σ F cs (some a3)) (h4 : EM r4 t4 σ F cs (some a4)) : EM rr (tCall (Psp4 r1 r2 r3 r4 rr m) [] E (tCons t1 (tCons t2 (tCons t3 (tCons t4 tNil))))) σ F cs (m a1 a2 a3 a4) := em_Pcall4 h1 h2 h3 h4
end
end Mw

set_option maxHeartbeats 2000000
/-! objects of a class of the program: two fields, set by __init__ and then only read -/
namespace Mw
open PySem L2
open Evl (Ex)
section
variable {α β : Type}
def rO2 (C : Addr) (n1 n2 : Str) (ra : Rp α) (rb : Rp β) : Rp (α × β) := ⟨fun H v d => ∃ a dx v1 v2, v = .ref a ∧ H a = some (.ins C dx [(n1, v1), (n2, v2)]) ∧ ra.r H v1 d.1 ∧ rb.r H v2 d.2,
  fun e ⟨a, dx, v1, v2, h1, h2, h3, h4⟩ => ⟨a, dx, v1, v2, h1, e _ _ h2, ra.up e h3, rb.up e h4⟩⟩
/-- an object being made: the fields so far -/
def cO2 (C : Addr) (n1 n2 : Str) (ra : Rp α) (rb : Rp β) (s : Option α × Option β) : Cp := ⟨fun F o => ∃ dx vs, o = .ins C dx vs ∧ match s with
  | (none, none) => vs = []
  | (some a, none) => ∃ v, vs = [(n1, v)] ∧ ra.r F v a
  | (some a, some b) => ∃ v w, vs = [(n1, v), (n2, w)] ∧ ra.r F v a ∧ rb.r F w b
  | (none, some _) => False, fun {H H' o} e ⟨dx, vs, h1, h2⟩ => ⟨dx, vs, h1, match s, h2 with
  | (none, none), h => h
  | (some a, none), ⟨v, h3, h4⟩ => ⟨v, h3, ra.up e h4⟩
  | (some a, some b), ⟨v, w, h3, h4, h5⟩ => ⟨v, w, h3, ra.up e h4, rb.up e h5⟩⟩, fun ⟨_, _, h, _⟩ => by subst h; trivial⟩
def finO2 (s : Option α × Option β) : Option (α × β) := match s with
  | (some a, some b) => some (a, b)
  | _ => none
def putA (s : Option α × Option β) (a : α) : Option (Option α × Option β) := match s with
  | (none, none) => some (some a, none)
  | _ => none
def putB (s : Option α × Option β) (b : β) : Option (Option α × Option β) := match s with
  | (some a, none) => some (some a, some b)
  | _ => none
end
section
variable {α β α1 α2 ρ : Type} {ra : Rp α} {rb : Rp β} {r1 : Rp α1} {r2 : Rp α2} {rr : Rp ρ} {C : Addr} {n1 n2 : Str} {σ : L2.St} {F H : Hp} {cs : Cs} {K : PySem.W.Frag} {te t1 t2 : TE} {D : Ends} {c : Act} {tz : TS} {E : XK}
theorem em_fld1 {m : Option (α × β)} (hC : Cls K C) (hn : NoAttr K C n1) (h : EM (rO2 C n1 n2 ra rb) te σ F cs m) : EM ra (tFld K te n1) σ F cs (m.map fun z => z.1) := fun d q c F1 H e k Q hQ => by
  cases m with
  | none => cases q
  | some a =>
    cases q
    refine h a rfl c F1 H e k _ fun v F2 H2 e2 k2 r2 => ?_
    obtain ⟨p, dx, v1, v2, rfl, h1, h2, h3⟩ := r2
    exact ⟨p, C, dx, _, v1, rfl, k2.ex _ _ h1, hC, hn, by simp [List.lookup], hQ v1 F2 H2 e2 k2 h2⟩
theorem em_fld2 {m : Option (α × β)} (hC : Cls K C) (hn : NoAttr K C n2) (h12 : (n2 == n1) = false) (h : EM (rO2 C n1 n2 ra rb) te σ F cs m) : EM rb (tFld K te n2) σ F cs (m.map fun z => z.2) := fun d q c F1 H e k Q hQ => by
  cases m with
  | none => cases q
  | some a =>
    cases q
    refine h a rfl c F1 H e k _ fun v F2 H2 e2 k2 r2 => ?_
    obtain ⟨p, dx, v1, v2, rfl, h1, h2, h3⟩ := r2
    exact ⟨p, C, dx, _, v2, rfl, k2.ex _ _ h1, hC, hn, by simp [List.lookup, h12], hQ v2 F2 H2 e2 k2 h3⟩
/-- self.f = e, the first field -/
theorem a_put1 {i j : Nat} {p : Addr} {a : α} {s s' : Option α × Option β} {m : Option α} (hC : Cls K C) (hn : NoAttr K C n1) (hx : σ[i]? = some (some (.ref p))) (hj : cs[j]? = some (p, cO2 C n1 n2 ra rb s)) (h : EM ra te σ F cs m) (hm : m = some a) (hs : putA s a = some s') (k : Cov c F cs H)
    (n : ∀ F2 H2, Ex F F2 → Cov c F2 (cs.set j (p, cO2 C n1 n2 ra rb s')) H2 → D.nx σ H2) : sFld K (tVar i) te n1 D σ H := by
  refine h a hm c F H (Evl.Ex.refl _) k _ fun v F2 H2 e2 k2 r2 => ⟨_, hx, ?_⟩
  obtain ⟨_, _, o, g3, dx, vs, rfl, g4⟩ := k2.at_ j hj
  match s, g4, hs with
  | (none, none), g4, hs =>
    cases hs
    have g4 : vs = [] := g4
    subst g4
    exact ⟨p, C, dx, [], rfl, g3, hC, hn, by decide, n F2 _ e2 (k2.set j hj ⟨dx, _, rfl, v, rfl, r2⟩)⟩
theorem q_put1 {i j : Nat} {p : Addr} {a : α} {s s' : Option α × Option β} {m : Option α} (hC : Cls K C) (hn : NoAttr K C n1) (hx : σ[i]? = some (some (.ref p))) (hj : cs[j]? = some (p, cO2 C n1 n2 ra rb s)) (h : EM ra te σ F cs m) (hm : m = some a) (hs : putA s a = some s') (k : Cov c F cs H)
    (n : ∀ F2 H2, Ex F F2 → Cov c F2 (cs.set j (p, cO2 C n1 n2 ra rb s')) H2 → tz D σ H2) : tSeq (sFld K (tVar i) te n1) tz D σ H := a_put1 (D := { D with nx := tz D }) hC hn hx hj h hm hs k n
theorem a_put2 {i j : Nat} {p : Addr} {b : β} {s s' : Option α × Option β} {m : Option β} (hC : Cls K C) (hn : NoAttr K C n2) (h12 : ¬ n1 = n2) (hx : σ[i]? = some (some (.ref p))) (hj : cs[j]? = some (p, cO2 C n1 n2 ra rb s)) (h : EM rb te σ F cs m) (hm : m = some b) (hs : putB s b = some s') (k : Cov c F cs H)
    (n : ∀ F2 H2, Ex F F2 → Cov c F2 (cs.set j (p, cO2 C n1 n2 ra rb s')) H2 → D.nx σ H2) : sFld K (tVar i) te n2 D σ H := by
  refine h b hm c F H (Evl.Ex.refl _) k _ fun v F2 H2 e2 k2 r2 => ⟨_, hx, ?_⟩
  obtain ⟨_, _, o, g3, dx, vs, rfl, g4⟩ := k2.at_ j hj
  match s, g4, hs with
  | (some a, none), g4, hs =>
    cases hs
    obtain ⟨w, rfl, g5⟩ := g4
    have e : putF n2 v [(n1, w)] = [(n1, w), (n2, v)] := by
      show (if n1 = n2 then _ else (n1, w) :: putF n2 v []) = _
      rw [if_neg h12]
      rfl
    refine ⟨p, C, dx, _, rfl, g3, hC, hn, (by show 1 < 1000; decide), ?_⟩
    rw [e]
    exact n F2 _ e2 (k2.set j hj ⟨dx, _, rfl, w, v, rfl, g5, r2⟩)
end

structure CalM (P : Program) (w : World) (K : PySem.W.Frag) (mg : Str → Option Value) (base : Heap) (k : Nat) (C : Addr) (m : Str) (ps : List Str) (sp : Sp) (X : FuncData → Prop) : Prop where
  ex : ∃ f fd, FnOk P w K mg base CX0 k f fd ps sp ∧ Meth K C m f ∧ Binds K fd ps [] ∧ X fd
structure CalI (P : Program) (w : World) (K : PySem.W.Frag) (mg : Str → Option Value) (base : Heap) (k : Nat) (C : Addr) (ps : List Str) (sp : Sp) (X : FuncData → Prop) : Prop where
  ex : ∃ f fd, FnOk P w K mg base CX0 k f fd ps sp ∧ Mk K C f ∧ Binds K fd ps [] ∧ X fd
theorem pe_fldK {X : Cx} (K : PySem.W.Frag) (h : X.K = K) {e : Expr} {f : Str} {pos : Pos} {ta : TE} (he : PE X e ta) (hb : attributeBase e f X.env (eval e X.env) = eval e X.env) : PE X (.Attribute e f pos) (tFld K ta f) := h ▸ pe_fld he hb
section
variable {α β γ δ : Type} {ra : Rp α} {rb : Rp β} {rc : Rp γ} {σ : L2.St} {F H : Hp} {cs : Cs} {K : PySem.W.Frag} {te : TE} {tz : TS} {D : Ends} {c : Act}
end
end Mw

set_option maxHeartbeats 2000000
/-! is of bools; methods of any object (by position, by keywords), properties; a hook of my own for the head's facts -/
namespace Mw
open PySem L2
open Evl (Ex)
/-- values of ro are instances of C that have no attribute m of their own -/
def ObjM {ω : Type} (C : Addr) (m : Str) (ro : Rp ω) : Prop := ∀ F v a, ro.r F v a → ∃ p dx fs, v = .ref p ∧ F p = some (.ins C dx fs) ∧ fs.lookup m = none
def ObjP {ω : Type} (C : Addr) (ro : Rp ω) : Prop := ∀ F v a, ro.r F v a → ∃ p dx fs, v = .ref p ∧ F p = some (.ins C dx fs)
section
variable {α β ω α1 α2 ρ : Type} {ra : Rp α} {rb : Rp β} {ro : Rp ω} {r1 : Rp α1} {r2 : Rp α2} {rr : Rp ρ} {C : Addr} {n1 n2 m : Str} {σ : L2.St} {F : Hp} {cs : Cs} {K : PySem.W.Frag} {te t1 t2 : TE} {E : XK} {m0 : Option ω} {m1 : Option α1} {m2 : Option α2}
theorem objP_O2 : ObjP C (rO2 C n1 n2 ra rb) := fun F v a ⟨p, dx, v1, v2, e, g, _, _⟩ => ⟨p, dx, _, e, g⟩
theorem em_gm0 {g : ω → Option ρ} (ho : ObjM C m ro) (h : EM ro te σ F cs m0) : EM rr (tMeth C m (Psp1 ro rr g) [] E te tNil) σ F cs (o1 g m0) := fun d q c F0 H0 e0 k0 Q hQ => by
  obtain ⟨a, q1, q2⟩ := o1_some q
  refine h a q1 c F0 H0 e0 k0 _ fun v F1 H1 e1 k1 x1 => ?_
  obtain ⟨p, dx, fs, rfl, g1, g2⟩ := ho _ _ _ x1
  refine ⟨p, dx, fs, rfl, k1.ex _ _ g1, g2, ?_⟩
  exact ⟨F1, .ref p, a, d, rfl, k1.ex, x1, q2, fun v F9 H9 k9 r9 => hQ v F9 H9 (e1.trans k9.fz) (k1.call0 k9) r9⟩
theorem em_gm1 {g : ω → α1 → Option ρ} (ho : ObjM C m ro) (h : EM ro te σ F cs m0) (h1 : EM r1 t1 σ F cs m1) : EM rr (tMeth C m (Psp2 ro r1 rr g) [] E te (tCons t1 tNil)) σ F cs (o2 g m0 m1) := fun d q c F0 H0 e0 k0 Q hQ => by
  obtain ⟨a, b, q1, q2, q3⟩ := o2_some q
  refine h a q1 c F0 H0 e0 k0 _ fun v F1 H1 e1 k1 x1 => ?_
  obtain ⟨p, dx, fs, rfl, g1, g2⟩ := ho _ _ _ x1
  refine ⟨p, dx, fs, rfl, k1.ex _ _ g1, g2, ?_⟩
  refine h1 b q2 c F1 H1 (e0.trans e1) k1 _ fun w F2 H2 e2 k2 x2 => ?_
  exact ⟨F2, .ref p, w, a, b, d, rfl, k2.ex, ro.up e2 x1, x2, q3, fun v F9 H9 k9 r9 => hQ v F9 H9 ((e1.trans e2).trans k9.fz) (k2.call0 k9) r9⟩
theorem em_prop {g : ω → Option ρ} (ho : ObjP C ro) (h : EM ro te σ F cs m0) : EM rr (tProp C (Psp1 ro rr g) [] E te) σ F cs (o1 g m0) := fun d q c F0 H0 e0 k0 Q hQ => by
  obtain ⟨a, q1, q2⟩ := o1_some q
  refine h a q1 c F0 H0 e0 k0 _ fun v F1 H1 e1 k1 x1 => ?_
  obtain ⟨p, dx, fs, rfl, g1⟩ := ho _ _ _ x1
  refine ⟨p, dx, fs, rfl, k1.ex _ _ g1, ?_⟩
  exact ⟨F1, .ref p, a, d, rfl, k1.ex, x1, q2, fun v F9 H9 k9 r9 => hQ v F9 H9 (e1.trans k9.fz) (k1.call0 k9) r9⟩
theorem em_propF {g : ω → Option (List ρ)} (ho : ObjP C ro) (h : EM ro te σ F cs m0) : EF rr (tProp C (Fsp1 ro rr g) [] E te) σ F cs (o1 g m0) := fun d q c F0 H0 e0 k0 Q hQ => by
  obtain ⟨a, q1, q2⟩ := o1_some q
  refine h a q1 c F0 H0 e0 k0 _ fun v F1 H1 e1 k1 x1 => ?_
  obtain ⟨p, dx, fs, rfl, g1⟩ := ho _ _ _ x1
  refine ⟨p, dx, fs, rfl, k1.ex _ _ g1, ?_⟩
  exact ⟨F1, .ref p, a, d, rfl, k1.ex, x1, q2, fun p F9 H9 k9 => hQ p F9 H9 (e1.trans k9.fz) (k1.call0n k9) (k1.dom p (Or.resolve_left (k9.old_new (p, cLst rr d) List.mem_cons_self) List.not_mem_nil))⟩
end
section
variable {α β γ δ : Type} {ra : Rp α} {rb : Rp β} {rc : Rp γ} {σ : L2.St} {F H : Hp} {cs : Cs} {K : PySem.W.Frag} {te ta tb tc : TE}
/-! enumerate -/
end
section
variable {α : Type} {ra : Rp α} {σ : L2.St} {F H : Hp} {cs : Cs} {K : PySem.W.Frag} {c : Act} {D : Ends} {tz : TS}
end
structure CalP (P : Program) (w : World) (K : PySem.W.Frag) (mg : Str → Option Value) (base : Heap) (k : Nat) (C : Addr) (m : Str) (ps : List Str) (sp : Sp) (X : FuncData → Prop) : Prop where
  ex : ∃ f fd p, FnOk P w K mg base CX0 k f fd ps sp ∧ PropOf K C m p f ∧ Binds K fd ps [] ∧ X fd
end Mw
/-! ### the head's facts, by a hook of my own -/
namespace Hm
open PySem PySem.Spec PyProof.Rows L2 He
abbrev Fc : Type := PySem.W.Frag → Bool
abbrev fa (f : Fa) : Fc := fun K => f.ok K
/-- the getter of a property -/
def pg (K : PySem.W.Frag) (C : Addr) (f : Str) : Addr := match PySem.W.recIn K (ma K C f) "property" with
  | some (.ref g :: _) => g
  | _ => 0
def propB (x f : Str) : Fc := fun K => eqO (PySem.W.findIn K (.ref (ga K x)) f) (some (some (.ref (ma K (ga K x) f)))) && (eqO (PySem.W.specialIn K (.ref (ma K (ga K x) f)) "__get__") (some (some (.builtin "property.__get__"))) &&
  (decide (PySem.W.takesIn K (.ref (ma K (ga K x) f)) = some true) && (match PySem.W.recIn K (ma K (ga K x) f) "property" with
    | some (.ref _ :: _) => true
    | _ => false)))
theorem prop_ok {K : PySem.W.Frag} {x f : Str} (c : propB x f K = true) : PropOf K (ga K x) f (ma K (ga K x) f) (pg K (ga K x) f) := by
  obtain ⟨c1, c⟩ := ba c
  obtain ⟨c2, c⟩ := ba c
  obtain ⟨c3, c4⟩ := ba c
  refine ⟨eqO_ok c1, eqO_ok c2, of_decide_eq_true c3, ?_⟩
  unfold pg
  revert c4
  split
  · rename_i g rest e
    intro _
    exact ⟨rest, by rw [e]⟩
  · intro c4
    cases c4
/-- one def: where it stands, its name, qualified name, parameters, body, scope -/
structure DefM where
  at_ : PySem.W.Frag → Addr
  name : Str
  qual : Str
  params : Arguments
  body : List Stmt
  scope : Scope
def fnM (K : PySem.W.Frag) (a : Addr) : FnW := match K.lookup a with
  | some ⟨_, _, .func fd, _⟩ => some (fd.name, fd.qualname, fd.params, fd.body, fd.scope, fd.globals, fd.closure, fd.builtins)
  | _ => none
def DefM.val (d : DefM) : FnW := some (d.name, d.qual, d.params, .stmts d.body, d.scope, mainGlobals, [], builtinsNs)
def DefM.ok (K : PySem.W.Frag) (d : DefM) : Bool := PySem.W.keepIn K (.ref (d.at_ K)) && (match K.lookup (d.at_ K) with
  | some ⟨_, _, .func fd, _⟩ => PySem.W.codeIn K fd.code d.qual && (dflB K fd.defaults [] && kwdB K fd.kwdefaults [])
  | _ => false)
theorem DefM.funD {K : PySem.W.Frag} {d : DefM} (e : fnM K (d.at_ K) = d.val) (c : d.ok K = true) : ∃ fd, FunD K d.name d.qual d.params d.body d.scope [] [] (d.at_ K) fd := by
  obtain ⟨kp, c2⟩ := ba c
  unfold fnM at e
  cases q : K.lookup (d.at_ K) with
  | none =>
    rw [q] at c2
    cases c2
  | some o =>
    obtain ⟨oc, od, dt, osl⟩ := o
    rw [q] at c2 e
    cases dt with
    | func fd =>
      obtain ⟨n1, n2, n3, n4, n5, n6, n7, n8, n9, n10, n11, n12, n13, n14, n15⟩ := fd
      have e2 : (some (n1, n2, n3, n4, n5, n6, n7, n15) : FnW) = some (d.name, d.qual, d.params, .stmts d.body, d.scope, mainGlobals, [], builtinsNs) := e
      simp only [Option.some.injEq, Prod.mk.injEq] at e2
      obtain ⟨h1, h2, h3, h4, h5, h6, h7, h8⟩ := e2
      subst h1 h2 h3 h4 h5 h6 h7 h8
      have c3 : (PySem.W.codeIn K n13 d.qual && (dflB K n8 [] && kwdB K n9 [])) = true := c2
      obtain ⟨k1, k2⟩ := ba c3
      obtain ⟨k3, k4⟩ := ba k2
      exact ⟨_, ⟨oc, od, n8, n9, n10, n11, n12, n13, n14, osl, rfl, q, k1, dflB_ok k3, kwdB_ok k4⟩, kp⟩
    | _ => cases c2
def obsM (fa : List Fc) (fn : List DefM) (K : PySem.W.Frag) : AlD := ((fa.all fun f => f K) && fn.all fun d => d.ok K, fn.map fun d => fnM K (d.at_ K))
def valM (fn : List DefM) : AlD := (true, fn.map DefM.val)
def SaysM (fa : List Fc) (fn : List DefM) (K : PySem.W.Frag) : Prop := obsM fa fn K = valM fn
def obsMG (n : Nat) (fa : List Fc) (fn : List DefM) (g : Addr → Option Obj) : AlD := obsM fa fn (frG g (asD g n))
def hookM (n : Nat) (fa : List Fc) (fn : List DefM) : PySem.W.Hook where
  α := AlD
  obs := fun s => obsMG n fa fn s.heap.get?
  val := fun _ => valM fn
  says := fun _ h => ∃ K : PySem.W.Frag, K.In h ∧ SaysM fa fn K
  of := fun _ _ e => ⟨_, frG_in, e⟩
  keeps := fun _ _ _ ⟨K, hK, c⟩ k => ⟨K, PySem.W.Frag.In.keeps hK k, c⟩
theorem obsMG_eq {n : Nat} {fa : List Fc} {fn : List DefM} {g : Addr → Option Obj} {s : Shared} (h : ∀ a, g a = s.heap.get? a) : obsMG n fa fn g = (hookM n fa fn).obs s := by
  have e : g = s.heap.get? := funext h
  rw [e] <;> rfl
section
variable {fa : List Fc} {fn : List DefM} {K : PySem.W.Frag}
theorem SaysM.fact (c : SaysM fa fn K) (i : Nat) {f : Fc} (h : fa[i]? = some f := by rfl) : f K = true := by
  have c1 := (ba (show ((fa.all fun f => f K) && fn.all fun d => d.ok K) = true from congrArg (fun z : AlD => z.1) c)).1
  exact List.all_eq_true.mp c1 f (List.mem_of_getElem? h)
theorem SaysM.def_ (c : SaysM fa fn K) (i : Nat) {d : DefM} (h : fn[i]? = some d := by rfl) : ∃ fd, FunD K d.name d.qual d.params d.body d.scope [] [] (d.at_ K) fd := by
  have c2 := (ba (show ((fa.all fun f => f K) && fn.all fun d => d.ok K) = true from congrArg (fun z : AlD => z.1) c)).2
  have e : fn.map (fun d => fnM K (d.at_ K)) = fn.map DefM.val := congrArg (fun z : AlD => z.2) c
  have e2 : (fn.map fun d => fnM K (d.at_ K))[i]? = (fn.map DefM.val)[i]? := by rw [e]
  rw [List.getElem?_map, List.getElem?_map, h] at e2
  exact DefM.funD (Option.some.inj e2) (List.all_eq_true.mp c2 d (List.mem_of_getElem? h))
end
end Hm

set_option maxHeartbeats 2000000
/-! sorted(xs), xs a list of tuples of ints (none of them empty) of any number; sorted of ints -/
namespace Mw
open PySem PySem.Spec PyProof.Rows L2
open Evl (Ex)
/-- the order of tuples of ints -/
def lexL : List Int → List Int → Bool
  | [], [] => false
  | [], _ :: _ => true
  | _ :: _, [] => false
  | x :: a, y :: b => if x = y then lexL a b else decide (x < y)
theorem lexL_asym : ∀ {a b : List Int}, lexL a b = true → lexL b a = false
  | [], [], h => by cases h
  | [], _ :: _, _ => rfl
  | _ :: _, [], h => by cases h
  | x :: a, y :: b, h => by
    unfold lexL at h ⊢
    by_cases e : x = y
    · rw [if_pos e] at h
      rw [if_pos e.symm]
      exact lexL_asym h
    · rw [if_neg e] at h
      rw [if_neg (fun z => e z.symm)]
      have := of_decide_eq_true h
      exact decide_eq_false (by omega)
theorem lexL_tr : ∀ {x y z : List Int}, lexL y x = false → lexL z y = false → lexL z x = false
  | [], y, z, h1, h2 => by
    cases z with
    | nil => rfl
    | cons c z => rfl
  | a :: x, [], z, h1, h2 => by cases h1
  | a :: x, b :: y, [], h1, h2 => by cases h2
  | a :: x, b :: y, c :: z, h1, h2 => by
    unfold lexL at h1 h2 ⊢
    by_cases e1 : b = a
    · rw [if_pos e1] at h1
      by_cases e2 : c = b
      · rw [if_pos e2] at h2
        rw [if_pos (e2.trans e1)]
        exact lexL_tr h1 h2
      · rw [if_neg e2] at h2
        rw [if_neg (fun q => e2 (q.trans e1.symm))]
        have := of_decide_eq_false h2
        exact decide_eq_false (by omega)
    · rw [if_neg e1] at h1
      have q1 := of_decide_eq_false h1
      by_cases e2 : c = b
      · rw [if_pos e2] at h2
        rw [if_neg (fun q => e1 (e2.symm.trans q))]
        exact decide_eq_false (by omega)
      · rw [if_neg e2] at h2
        have q2 := of_decide_eq_false h2
        rw [if_neg (by omega)]
        exact decide_eq_false (by omega)
theorem lexL_swo : SrtO.Swo lexL := ⟨fun _ _ => lexL_asym, fun _ _ _ => lexL_tr⟩
theorem lexL_eq : ∀ {a b : List Int}, lexL a b = false → lexL b a = false → a = b
  | [], [], _, _ => rfl
  | [], _ :: _, h, _ => by cases h
  | _ :: _, [], _, h => by cases h
  | x :: a, y :: b, h1, h2 => by
    unfold lexL at h1 h2
    by_cases e : x = y
    · rw [if_pos e] at h1
      rw [if_pos e.symm] at h2
      rw [e, lexL_eq h1 h2]
    · rw [if_neg e] at h1
      rw [if_neg (fun z => e z.symm)] at h2
      have q1 := of_decide_eq_false h1
      have q2 := of_decide_eq_false h2
      omega
/-- ascending -/
def srtT (l : List (List Int)) : List (List Int) := l.mergeSort fun a b => !lexL b a
theorem srtT_perm (l : List (List Int)) : (srtT l).Perm l := List.mergeSort_perm l _
theorem srtT_srtd (l : List (List Int)) : SrtO.Srtd lexL (srtT l) := by
  have h := List.pairwise_mergeSort (le := fun a b => !lexL b a) (fun a b c h1 h2 => by
    have h1 : lexL b a = false := by simpa using h1
    have h2 : lexL c b = false := by simpa using h2
    show (!lexL c a) = true
    rw [lexL_tr h1 h2]
    rfl) (fun a b => by
    cases h : lexL b a with
    | false => rfl
    | true => rw [lexL_asym h]; rfl) l
  exact h.imp fun {a b} h => by simpa using h
theorem srtd_uniq : ∀ {l m : List (List Int)}, SrtO.Srtd lexL l → SrtO.Srtd lexL m → l.Perm m → l = m
  | [], m, _, _, p => (List.Perm.eq_nil p.symm).symm
  | a :: l, [], _, _, p => absurd p.length_eq (by simp)
  | a :: l, b :: m, hl, hm, p => by
    have h1 : lexL a b = false := by
      rcases List.mem_cons.mp (p.mem_iff.mp (List.mem_cons_self (a := a) (l := l))) with e | ha
      · rw [e]; exact lexL_swo.refl b
      · exact SrtO.srtd_head hm a ha
    have h2 : lexL b a = false := by
      rcases List.mem_cons.mp (p.mem_iff.mpr (List.mem_cons_self (a := b) (l := m))) with e | hb
      · rw [e]; exact lexL_swo.refl a
      · exact SrtO.srtd_head hl b hb
    have e := lexL_eq h1 h2
    subst e
    rw [srtd_uniq (List.pairwise_cons.mp hl).2 (List.pairwise_cons.mp hm).2 p.cons_inv]
/-! at the machine -/
def IsTupI (h : Heap) (v : Value) (ns : List Int) : Prop := ∃ (a : Addr) (o : Obj) (us : Array Value) (n : Nat), v = .ref a ∧ h.get? a = some o ∧ o.cls = .type "tuple" ∧ o.data = .seq us n ∧ Vals (ns.map V.int) us.toList ∧ ns ≠ []
theorem IsTupI.keeps {h h' : Heap} {v : Value} {ns : List Int} (p : IsTupI h v ns) (k : ∀ b o, h.get? b = some o → o.cls = .type "tuple" → h'.get? b = some o) : IsTupI h' v ns := by
  obtain ⟨a, o, us, n, e, ho, hc, hd, r, z⟩ := p
  exact ⟨a, o, us, n, e, k _ _ ho hc, hc, hd, r, z⟩
section
variable {prog : Program} {w : World} {A : Around} {E : Value → Shared → Prop} {s : Shared}
theorem lex_tup {Q : Bool → Shared → Prop} {fin : Bool} : ∀ {ns ms : List Int} {us vs : List Value} (i : Nat), Vals (ns.map V.int) us → Vals (ms.map V.int) vs → fin = decide (ns.length < ms.length) → Q (lexL ns ms) s → PySem.W.KatLex prog w A true fin Q (us.zip vs) i s
  | [], [], us, vs, i, hu, hv, hf, h => by
    cases hu
    rw [List.zip_nil_left]
    subst hf
    exact PySem.W.kat_nil h
  | [], m :: ms, us, vs, i, hu, hv, hf, h => by
    cases hu
    rw [List.zip_nil_left]
    subst hf
    exact PySem.W.kat_nil (by
      have : decide (([] : List Int).length < (m :: ms).length) = true := decide_eq_true (by simp)
      rw [this]
      exact h)
  | n :: ns, [], us, vs, i, hu, hv, hf, h => by
    cases hv
    rw [List.zip_nil_right]
    subst hf
    exact PySem.W.kat_nil (by
      have : decide ((n :: ns).length < ([] : List Int).length) = false := decide_eq_false (by simp)
      rw [this]
      exact h)
  | n :: ns, m :: ms, us, vs, i, hu, hv, hf, h => by
    cases hu with
    | @cons _ u _ ur r1 hu =>
      cases hv with
      | @cons _ v _ vr r2 hv =>
        obtain ⟨t, rfl⟩ := r1
        obtain ⟨t', rfl⟩ := r2
        rw [List.zip_cons_cons]
        refine PySem.W.kat_cons (SeqAt.EqAt.int_int n t m t' prog w _ _ ?_)
        refine PySem.W.kat_go (fun e1 => ?_) (fun e1 => ?_)
        · have ex : n = m := by simpa using e1
          refine PySem.W.kat_yes (lex_tup (i + 1) hu hv ?_ ?_)
          · rw [hf]
            exact decide_eq_decide.mpr (by simp)
          · have h2 := h
            unfold lexL at h2
            rw [if_pos ex] at h2
            exact h2
        · have ex : ¬ n = m := by simpa using e1
          refine PySem.W.kat_no (TS.oneLt_ints _ ?_)
          have h2 := h
          unfold lexL at h2
          rw [if_neg ex] at h2
          exact h2
theorem tup_cmp {vs : List Value} {k : Value → List Int} (hp : ∀ v ∈ vs, IsTupI s.heap v (k v)) : SrtO.Cmp prog w A s (tuples' true) (fun p => p.1 ∈ vs) (SrtO.lt2 fun v u => lexL (k v) (k u)) := by
  intro p q hm hm'
  have h1 := hp _ hm
  have h2 := hp _ hm'
  show wpAny (model prog w) A (keyLt' (tuples' true) p.1 q.1) (fun r s' => s' = s ∧ r = lexL (k p.1) (k q.1)) (fun _ _ => False) s
  generalize k p.1 = ns at h1 ⊢
  generalize k q.1 = ms at h2 ⊢
  obtain ⟨a, o, us, n, e, ho, hc, hd, r, z⟩ := h1
  obtain ⟨a', o', us', n', e', ho', hc', hd', r', z'⟩ := h2
  rw [e, e']
  refine PySem.W.kat_lt ho hd ho' hd' (lex_tup 0 r r' ?_ ⟨rfl, rfl⟩)
  have l1 := r.length
  have l2 := r'.length
  simp only [List.length_map, Array.length_toList] at l1 l2
  rw [l1, l2]
theorem tups_first {h : Heap} {k : Value → List Int} : ∀ {vs : List Value}, (∀ v ∈ vs, IsTupI h v (k v)) → ∃ fs : List Value, PySem.W.KatTups h vs fs ∧ fs.length = vs.length ∧ ∀ f ∈ fs, ∃ x t, f = Value.int x t
  | [], _ => ⟨[], PySem.W.KatTups.nil, rfl, fun _ hm => by simp at hm⟩
  | v :: vs, hp => by
    obtain ⟨fs, h1, h2, h3⟩ := tups_first (vs := vs) fun v' hm => hp v' (List.mem_cons_of_mem _ hm)
    obtain ⟨a, o, us, n, e, ho, hc, hd, r, z⟩ := hp v (List.mem_cons_self ..)
    generalize k v = ns at r z
    subst e
    cases ns with
    | nil => exact absurd rfl z
    | cons x ns =>
      obtain ⟨us⟩ := us
      cases r with
      | @cons _ u _ ur r1 _ =>
        obtain ⟨t, rfl⟩ := r1
        refine ⟨.int x t :: fs, PySem.W.KatTups.cons ho hc hd rfl h1, by rw [List.length_cons, List.length_cons, h2], fun f hm => ?_⟩
        rcases List.mem_cons.mp hm with rfl | hm
        · exact ⟨x, t, rfl⟩
        · exact h3 f hm
theorem tups_sortableO {a : Addr} {vs : List Value} {k : Value → List Int} (h0 : 0 < vs.length) (hp : ∀ v ∈ vs, IsTupI s.heap v (k v)) (ha : ∀ o, s.heap.get? a = some o → o.cls ≠ .type "tuple") : SrtO.SortableO prog w A s a vs fun v u => lexL (k v) (k u) := by
  intro h' keep
  have hp' : ∀ v ∈ vs, IsTupI h' v (k v) := fun v hm => (hp v hm).keeps fun b o e c => keep b o (fun z => by subst z; exact ha o e c) e
  obtain ⟨fs, h1, h2, h3⟩ := tups_first hp'
  refine ⟨tuples' true, fun Q E hq => ?_, tup_cmp hp'⟩
  refine PySem.W.kat_kind (T := .type "int") h1 (by omega) (fun f hm => ?_) (by rfl) ?_
  · obtain ⟨x, t, rfl⟩ := h3 f hm
    exact PySem.W.Looks.now
  · have e : (Value.type "int" != Value.type "tuple") = true := by first | decide +kernel | rfl | decide
    rw [e]
    exact hq
theorem swo_key (k : Value → List Int) : SrtO.Swo fun v u => lexL (k v) (k u) := ⟨fun _ _ => lexL_asym, fun _ _ _ => lexL_tr⟩
theorem sorted_tupsO {l : Addr} {vs : List Value} {k : Value → List Int} {Q : Value → Shared → Prop} (hl : s.heap.IsList l vs.toArray) (hz : vs.length ≤ sizeLine) (hp : ∀ v ∈ vs, IsTupI s.heap v (k v))
    (h : ∀ (h' : Heap) (d : Addr) (out : List Value), SrtO.Srtd (fun v u => lexL (k v) (k u)) out → SrtO.Stb (fun v u => lexL (k v) (k u)) out vs → (∀ b o, s.heap.get? b = some o → h'.get? b = some o) → s.heap.objs.size ≤ d → (∃ n, h'.get? d = some (seqObj "list" out.toArray n)) → Q (.ref d) { s with heap := h' }) :
    wpAny (model prog w) A (call (.builtin "sorted") [.ref l]) Q E s := by
  refine SrtO.sorted_ord (swo_key k) hl hz (fun h2 h₁ a ha kk => ?_) fun out hs hb => ?_
  · refine tups_sortableO (s := { s with heap := h₁ }) (by omega) (fun v hm => (hp v hm).keeps fun b o e _ => (kk b o e).2) fun o e => ?_
    have e' : some o = some (seqObj "list" vs.toArray 0) := e.symm.trans ha
    cases e'
    intro c
    exact absurd (Value.type.inj c) (by decide)
  · exact h _ _ out hs hb (fun b o e => PyProof.Rows.sortedAll_old e) (Nat.le_succ _) (PyProof.Rows.sortedAll_at s.heap vs out.toArray)
end
abbrev ltV (k : V → List Int) (x y : V) : Bool := lexL (k x) (k y)
theorem ltV_swo (k : V → List Int) : SrtO.Swo (ltV k) := ⟨fun _ _ => lexL_asym, fun _ _ _ => lexL_tr⟩
def rSortedTI (K : PySem.W.Frag) : List V → Hp → VK → Prop := fun vs H Q => ∃ (a : Addr) (xs : List V) (k : V → List Int), vs = [V.ref a] ∧ SqL K H a xs ∧ (∀ x ∈ xs, k x ≠ [] ∧ ∃ t, x = V.ref t ∧ H t = some (.tup ((k x).map V.int))) ∧
  ∀ ys p, SrtO.Srtd (ltV k) ys → SrtO.Stb (ltV k) ys xs → H p = none → Q (.ref p) (upd H p (.lst ys))
theorem cr_sortedTI {X : Cx} : CallR X (.builtin "sorted") (rSortedTI X.K) := by
  intro pins s σ H vs us Q I r h
  obtain ⟨a, xs, k, rfl, hs, hx, q⟩ := h
  obtain ⟨its, rv, hl, hz⟩ := I.list hs
  obtain ⟨u, rfl, ru⟩ := vals1 r
  obtain rfl : u = Value.ref a := ru
  obtain ⟨e1, e2⟩ := refs_back rv fun x m => by
    obtain ⟨_, t, e, _⟩ := hx x m
    exact ⟨t, e⟩
  refine sorted_tupsO (k := fun u => k (backV u)) hl.isList (by rw [← rv.length]; exact hz) (fun v hv => ?_) fun h' d out h1 h2 kp hd hn => ?_
  · obtain ⟨t, rfl⟩ := e2 v hv
    have hm : V.ref t ∈ xs := by rw [e1]; exact List.mem_map.mpr ⟨_, hv, rfl⟩
    obtain ⟨ne, t', e, ht⟩ := hx _ hm
    cases e
    obtain ⟨_, its2, r2, o, ho, hc, n, hd⟩ := I.hok _ _ ht
    exact ⟨t, o, its2.toArray, n, rfl, ho, hc, hd, by simpa [backV] using r2, ne⟩
  · have h3 : ∀ u ∈ out, ∃ a, u = Value.ref a := fun u hu => e2 u (h2.perm.mem_iff.mp hu)
    obtain ⟨n, hn⟩ := hn
    have hb : SrtO.Stb (ltV k) (out.map backV) xs := by
      rw [e1]
      exact SrtO.Stb.map (ltV_swo k) backV h2
    refine ⟨.ref d, upd H d (.lst (out.map backV)), I.laid (t' := s.toks) kp hd ⟨?_, out, n, vals_back h3, hn⟩, rfl, q _ d (SrtO.srtd_map h1) hb (I.hok.fresh hd)⟩
    rw [hb.len]
    exact hz
theorem cr_sortedTIK {X : Cx} (K : PySem.W.Frag) (h : X.K = K) : CallR X (.builtin "sorted") (rSortedTI K) := h ▸ cr_sortedTI
end Mw

set_option maxHeartbeats 2000000
/-! objects of a class with one, three, four fields (printed by objs.py) -/
namespace Mw
open PySem L2
open Evl (Ex)
section
variable {α0 : Type}
end
section
variable {α0 β1 β2 β3 ρ ω : Type} {r0 : Rp α0} {s1 : Rp β1} {s2 : Rp β2} {s3 : Rp β3} {rr : Rp ρ} {C : Addr} {n0 : Str} {σ : L2.St} {F H : Hp} {cs : Cs} {K : PySem.W.Frag} {te t1 t2 t3 : TE} {D : Ends} {c : Act} {tz : TS} {E : XK}
end
section
variable {α0 α1 α2 : Type}
end
section
variable {α0 α1 α2 β1 β2 β3 ρ ω : Type} {r0 : Rp α0} {r1 : Rp α1} {r2 : Rp α2} {s1 : Rp β1} {s2 : Rp β2} {s3 : Rp β3} {rr : Rp ρ} {C : Addr} {n0 n1 n2 : Str} {σ : L2.St} {F H : Hp} {cs : Cs} {K : PySem.W.Frag} {te t1 t2 t3 : TE} {D : Ends} {c : Act} {tz : TS} {E : XK}
end
section
variable {α0 α1 α2 α3 : Type}
def rO4 (C : Addr) (n0 n1 n2 n3 : Str) (r0 : Rp α0) (r1 : Rp α1) (r2 : Rp α2) (r3 : Rp α3) : Rp (α0 × α1 × α2 × α3) := ⟨fun H v d => ∃ a dx v0 v1 v2 v3, v = .ref a ∧ H a = some (.ins C dx [(n0, v0), (n1, v1), (n2, v2), (n3, v3)]) ∧ r0.r H v0 d.1 ∧ r1.r H v1 d.2.1 ∧ r2.r H v2 d.2.2.1 ∧ r3.r H v3 d.2.2.2,
  fun e ⟨a, dx, v0, v1, v2, v3, h1, h2, h3, h4, h5, h6⟩ => ⟨a, dx, v0, v1, v2, v3, h1, e _ _ h2, r0.up e h3, r1.up e h4, r2.up e h5, r3.up e h6⟩⟩
/-- an object being made: the fields so far -/
def cO4P (n0 n1 n2 n3 : Str) (r0 : Rp α0) (r1 : Rp α1) (r2 : Rp α2) (r3 : Rp α3) (s : Option α0 × Option α1 × Option α2 × Option α3) (F : Hp) (vs : List (Str × V)) : Prop := match s with
  | (none, none, none, none) => vs = []
  | (some a0, none, none, none) => ∃ v0, vs = [(n0, v0)] ∧ r0.r F v0 a0
  | (some a0, some a1, none, none) => ∃ v0 v1, vs = [(n0, v0), (n1, v1)] ∧ r0.r F v0 a0 ∧ r1.r F v1 a1
  | (some a0, some a1, some a2, none) => ∃ v0 v1 v2, vs = [(n0, v0), (n1, v1), (n2, v2)] ∧ r0.r F v0 a0 ∧ r1.r F v1 a1 ∧ r2.r F v2 a2
  | (some a0, some a1, some a2, some a3) => ∃ v0 v1 v2 v3, vs = [(n0, v0), (n1, v1), (n2, v2), (n3, v3)] ∧ r0.r F v0 a0 ∧ r1.r F v1 a1 ∧ r2.r F v2 a2 ∧ r3.r F v3 a3
  | _ => False
theorem cO4P_up {n0 n1 n2 n3 : Str} {r0 : Rp α0} {r1 : Rp α1} {r2 : Rp α2} {r3 : Rp α3} {s : Option α0 × Option α1 × Option α2 × Option α3} {F F' : Hp} {vs : List (Str × V)} (e : Ex F F') (h : cO4P n0 n1 n2 n3 r0 r1 r2 r3 s F vs) : cO4P n0 n1 n2 n3 r0 r1 r2 r3 s F' vs := by
  unfold cO4P at h ⊢
  split at h
  · exact h
  · obtain ⟨v0, h, g0⟩ := h
    exact ⟨v0, h, r0.up e g0⟩
  · obtain ⟨v0, v1, h, g0, g1⟩ := h
    exact ⟨v0, v1, h, r0.up e g0, r1.up e g1⟩
  · obtain ⟨v0, v1, v2, h, g0, g1, g2⟩ := h
    exact ⟨v0, v1, v2, h, r0.up e g0, r1.up e g1, r2.up e g2⟩
  · obtain ⟨v0, v1, v2, v3, h, g0, g1, g2, g3⟩ := h
    exact ⟨v0, v1, v2, v3, h, r0.up e g0, r1.up e g1, r2.up e g2, r3.up e g3⟩
  · exact h
def cO4 (C : Addr) (n0 n1 n2 n3 : Str) (r0 : Rp α0) (r1 : Rp α1) (r2 : Rp α2) (r3 : Rp α3) (s : Option α0 × Option α1 × Option α2 × Option α3) : Cp := ⟨fun F o => ∃ dx vs, o = .ins C dx vs ∧ cO4P n0 n1 n2 n3 r0 r1 r2 r3 s F vs, fun e ⟨dx, vs, h1, h2⟩ => ⟨dx, vs, h1, cO4P_up e h2⟩, fun ⟨_, _, h, _⟩ => by subst h; trivial⟩
def finO4 (s : Option α0 × Option α1 × Option α2 × Option α3) : Option (α0 × α1 × α2 × α3) := match s with
  | (some a0, some a1, some a2, some a3) => some (a0, a1, a2, a3)
  | _ => none
def put4_0 (s : Option α0 × Option α1 × Option α2 × Option α3) (a : α0) : Option (Option α0 × Option α1 × Option α2 × Option α3) := match s with
  | (none, none, none, none) => some ((some a, none, none, none))
  | _ => none
def put4_1 (s : Option α0 × Option α1 × Option α2 × Option α3) (a : α1) : Option (Option α0 × Option α1 × Option α2 × Option α3) := match s with
  | (some a0, none, none, none) => some ((some a0, some a, none, none))
  | _ => none
def put4_2 (s : Option α0 × Option α1 × Option α2 × Option α3) (a : α2) : Option (Option α0 × Option α1 × Option α2 × Option α3) := match s with
  | (some a0, some a1, none, none) => some ((some a0, some a1, some a, none))
  | _ => none
def put4_3 (s : Option α0 × Option α1 × Option α2 × Option α3) (a : α3) : Option (Option α0 × Option α1 × Option α2 × Option α3) := match s with
  | (some a0, some a1, some a2, none) => some ((some a0, some a1, some a2, some a))
  | _ => none
theorem finO4_some {s : Option α0 × Option α1 × Option α2 × Option α3} {d : α0 × α1 × α2 × α3} (h : finO4 s = some d) : s = (some d.1, some d.2.1, some d.2.2.1, some d.2.2.2) := by
  rcases s with ⟨_ | _, _ | _, _ | _, _ | _⟩
  all_goals first
    | (cases h; rfl)
    | cases h
theorem put4_0_some {s s' : Option α0 × Option α1 × Option α2 × Option α3} {a : α0} (h : put4_0 s a = some s') : s = (none, none, none, none) ∧ s' = (some a, none, none, none) := by
  rcases s with ⟨_ | _, _ | _, _ | _, _ | _⟩
  all_goals first
    | (cases h; exact ⟨rfl, rfl⟩)
    | cases h
theorem put4_1_some {s s' : Option α0 × Option α1 × Option α2 × Option α3} {a : α1} (h : put4_1 s a = some s') : ∃ a0, s = (some a0, none, none, none) ∧ s' = (some a0, some a, none, none) := by
  rcases s with ⟨_ | _, _ | _, _ | _, _ | _⟩
  all_goals first
    | (cases h; exact ⟨_, rfl, rfl⟩)
    | cases h
theorem put4_2_some {s s' : Option α0 × Option α1 × Option α2 × Option α3} {a : α2} (h : put4_2 s a = some s') : ∃ a0, ∃ a1, s = (some a0, some a1, none, none) ∧ s' = (some a0, some a1, some a, none) := by
  rcases s with ⟨_ | _, _ | _, _ | _, _ | _⟩
  all_goals first
    | (cases h; exact ⟨_, _, rfl, rfl⟩)
    | cases h
theorem put4_3_some {s s' : Option α0 × Option α1 × Option α2 × Option α3} {a : α3} (h : put4_3 s a = some s') : ∃ a0, ∃ a1, ∃ a2, s = (some a0, some a1, some a2, none) ∧ s' = (some a0, some a1, some a2, some a) := by
  rcases s with ⟨_ | _, _ | _, _ | _, _ | _⟩
  all_goals first
    | (cases h; exact ⟨_, _, _, rfl, rfl⟩)
    | cases h
end
section
variable {α0 α1 α2 α3 β1 β2 β3 ρ ω : Type} {r0 : Rp α0} {r1 : Rp α1} {r2 : Rp α2} {r3 : Rp α3} {s1 : Rp β1} {s2 : Rp β2} {s3 : Rp β3} {rr : Rp ρ} {C : Addr} {n0 n1 n2 n3 : Str} {σ : L2.St} {F H : Hp} {cs : Cs} {K : PySem.W.Frag} {te t1 t2 t3 : TE} {D : Ends} {c : Act} {tz : TS} {E : XK}
theorem em_fld4_0 {m : Option (α0 × α1 × α2 × α3)} (hC : Cls K C) (hn : NoAttr K C n0) (h : EM (rO4 C n0 n1 n2 n3 r0 r1 r2 r3) te σ F cs m) : EM r0 (tFld K te n0) σ F cs (m.map fun z => z.1) := fun d q c F1 H e k Q hQ => by
  cases m with
  | none => cases q
  | some a =>
    cases q
    refine h a rfl c F1 H e k _ fun v F2 H2 e2 k2 r2 => ?_
    obtain ⟨p, dx, v0, v1, v2, v3, rfl, h1, g0, g1, g2, g3⟩ := r2
    exact ⟨p, C, dx, _, v0, rfl, k2.ex _ _ h1, hC, hn, by simp [List.lookup], hQ v0 F2 H2 e2 k2 g0⟩
theorem em_fld4_1 {m : Option (α0 × α1 × α2 × α3)} (hC : Cls K C) (hn : NoAttr K C n1) (nh0 : (n1 == n0) = false) (h : EM (rO4 C n0 n1 n2 n3 r0 r1 r2 r3) te σ F cs m) : EM r1 (tFld K te n1) σ F cs (m.map fun z => z.2.1) := fun d q c F1 H e k Q hQ => by
  cases m with
  | none => cases q
  | some a =>
    cases q
    refine h a rfl c F1 H e k _ fun v F2 H2 e2 k2 r2 => ?_
    obtain ⟨p, dx, v0, v1, v2, v3, rfl, h1, g0, g1, g2, g3⟩ := r2
    exact ⟨p, C, dx, _, v1, rfl, k2.ex _ _ h1, hC, hn, by simp [List.lookup, nh0], hQ v1 F2 H2 e2 k2 g1⟩
theorem em_fld4_2 {m : Option (α0 × α1 × α2 × α3)} (hC : Cls K C) (hn : NoAttr K C n2) (nh0 : (n2 == n0) = false) (nh1 : (n2 == n1) = false) (h : EM (rO4 C n0 n1 n2 n3 r0 r1 r2 r3) te σ F cs m) : EM r2 (tFld K te n2) σ F cs (m.map fun z => z.2.2.1) := fun d q c F1 H e k Q hQ => by
  cases m with
  | none => cases q
  | some a =>
    cases q
    refine h a rfl c F1 H e k _ fun v F2 H2 e2 k2 r2 => ?_
    obtain ⟨p, dx, v0, v1, v2, v3, rfl, h1, g0, g1, g2, g3⟩ := r2
    exact ⟨p, C, dx, _, v2, rfl, k2.ex _ _ h1, hC, hn, by simp [List.lookup, nh0, nh1], hQ v2 F2 H2 e2 k2 g2⟩
theorem em_fld4_3 {m : Option (α0 × α1 × α2 × α3)} (hC : Cls K C) (hn : NoAttr K C n3) (nh0 : (n3 == n0) = false) (nh1 : (n3 == n1) = false) (nh2 : (n3 == n2) = false) (h : EM (rO4 C n0 n1 n2 n3 r0 r1 r2 r3) te σ F cs m) : EM r3 (tFld K te n3) σ F cs (m.map fun z => z.2.2.2) := fun d q c F1 H e k Q hQ => by
  cases m with
  | none => cases q
  | some a =>
    cases q
    refine h a rfl c F1 H e k _ fun v F2 H2 e2 k2 r2 => ?_
    obtain ⟨p, dx, v0, v1, v2, v3, rfl, h1, g0, g1, g2, g3⟩ := r2
    exact ⟨p, C, dx, _, v3, rfl, k2.ex _ _ h1, hC, hn, by simp [List.lookup, nh0, nh1, nh2], hQ v3 F2 H2 e2 k2 g3⟩
theorem objP_O4 : ObjP C (rO4 C n0 n1 n2 n3 r0 r1 r2 r3) := fun F v a ⟨p, dx, v0, v1, v2, v3, e, g, _⟩ => ⟨p, dx, _, e, g⟩
theorem objM_O4 {m : Str} (h0 : (m == n0) = false) (h1 : (m == n1) = false) (h2 : (m == n2) = false) (h3 : (m == n3) = false) : ObjM C m (rO4 C n0 n1 n2 n3 r0 r1 r2 r3) := fun F v a ⟨p, dx, v0, v1, v2, v3, e, g, _⟩ => ⟨p, dx, _, e, g, by simp [List.lookup, h0, h1, h2, h3]⟩
theorem a_put4_0 {i j : Nat} {p : Addr} {a : α0} {s s' : Option α0 × Option α1 × Option α2 × Option α3} {m : Option α0} (hC : Cls K C) (hn : NoAttr K C n0) (hx : σ[i]? = some (some (.ref p))) (hj : cs[j]? = some (p, cO4 C n0 n1 n2 n3 r0 r1 r2 r3 s)) (h : EM r0 te σ F cs m) (hm : m = some a) (hs : put4_0 s a = some s') (k : Cov c F cs H) (n : ∀ F2 H2, Ex F F2 → Cov c F2 (cs.set j (p, cO4 C n0 n1 n2 n3 r0 r1 r2 r3 s')) H2 → D.nx σ H2) : sFld K (tVar i) te n0 D σ H := by
  refine h a hm c F H (Evl.Ex.refl _) k _ fun v F2 H2 e2 k2 r2 => ⟨_, hx, ?_⟩
  obtain ⟨_, _, o, g3, dx, vs, rfl, g4⟩ := k2.at_ j hj
  obtain ⟨rfl, rfl⟩ := put4_0_some hs
  have g4 : vs = [] := g4
  subst g4
  have e : putF n0 v [] = [(n0, v)] := by
    rfl
  refine ⟨p, C, dx, _, rfl, g3, hC, hn, (by show 0 < 1000; decide), ?_⟩
  rw [e]
  exact n F2 _ e2 (k2.set j hj ⟨dx, _, rfl, v, rfl, r2⟩)
theorem q_put4_0 {i j : Nat} {p : Addr} {a : α0} {s s' : Option α0 × Option α1 × Option α2 × Option α3} {m : Option α0} (hC : Cls K C) (hn : NoAttr K C n0) (hx : σ[i]? = some (some (.ref p))) (hj : cs[j]? = some (p, cO4 C n0 n1 n2 n3 r0 r1 r2 r3 s)) (h : EM r0 te σ F cs m) (hm : m = some a) (hs : put4_0 s a = some s') (k : Cov c F cs H) (n : ∀ F2 H2, Ex F F2 → Cov c F2 (cs.set j (p, cO4 C n0 n1 n2 n3 r0 r1 r2 r3 s')) H2 → tz D σ H2) : tSeq (sFld K (tVar i) te n0) tz D σ H := a_put4_0 (D := { D with nx := tz D }) hC hn hx hj h hm hs k n
theorem a_put4_1 {i j : Nat} {p : Addr} {a : α1} {s s' : Option α0 × Option α1 × Option α2 × Option α3} {m : Option α1} (hC : Cls K C) (hn : NoAttr K C n1) (nh0 : ¬ n0 = n1) (hx : σ[i]? = some (some (.ref p))) (hj : cs[j]? = some (p, cO4 C n0 n1 n2 n3 r0 r1 r2 r3 s)) (h : EM r1 te σ F cs m) (hm : m = some a) (hs : put4_1 s a = some s') (k : Cov c F cs H) (n : ∀ F2 H2, Ex F F2 → Cov c F2 (cs.set j (p, cO4 C n0 n1 n2 n3 r0 r1 r2 r3 s')) H2 → D.nx σ H2) : sFld K (tVar i) te n1 D σ H := by
  refine h a hm c F H (Evl.Ex.refl _) k _ fun v F2 H2 e2 k2 r2 => ⟨_, hx, ?_⟩
  obtain ⟨_, _, o, g3, dx, vs, rfl, g4⟩ := k2.at_ j hj
  obtain ⟨a0, rfl, rfl⟩ := put4_1_some hs
  obtain ⟨v0, rfl, g5⟩ := g4
  have e : putF n1 v [(n0, v0)] = [(n0, v0), (n1, v)] := by
    simp [putF, nh0]
  refine ⟨p, C, dx, _, rfl, g3, hC, hn, (by show 1 < 1000; decide), ?_⟩
  rw [e]
  exact n F2 _ e2 (k2.set j hj ⟨dx, _, rfl, v0, v, rfl, g5, r2⟩)
theorem q_put4_1 {i j : Nat} {p : Addr} {a : α1} {s s' : Option α0 × Option α1 × Option α2 × Option α3} {m : Option α1} (hC : Cls K C) (hn : NoAttr K C n1) (nh0 : ¬ n0 = n1) (hx : σ[i]? = some (some (.ref p))) (hj : cs[j]? = some (p, cO4 C n0 n1 n2 n3 r0 r1 r2 r3 s)) (h : EM r1 te σ F cs m) (hm : m = some a) (hs : put4_1 s a = some s') (k : Cov c F cs H) (n : ∀ F2 H2, Ex F F2 → Cov c F2 (cs.set j (p, cO4 C n0 n1 n2 n3 r0 r1 r2 r3 s')) H2 → tz D σ H2) : tSeq (sFld K (tVar i) te n1) tz D σ H := a_put4_1 (D := { D with nx := tz D }) hC hn nh0 hx hj h hm hs k n
theorem a_put4_2 {i j : Nat} {p : Addr} {a : α2} {s s' : Option α0 × Option α1 × Option α2 × Option α3} {m : Option α2} (hC : Cls K C) (hn : NoAttr K C n2) (nh0 : ¬ n0 = n2) (nh1 : ¬ n1 = n2) (hx : σ[i]? = some (some (.ref p))) (hj : cs[j]? = some (p, cO4 C n0 n1 n2 n3 r0 r1 r2 r3 s)) (h : EM r2 te σ F cs m) (hm : m = some a) (hs : put4_2 s a = some s') (k : Cov c F cs H) (n : ∀ F2 H2, Ex F F2 → Cov c F2 (cs.set j (p, cO4 C n0 n1 n2 n3 r0 r1 r2 r3 s')) H2 → D.nx σ H2) : sFld K (tVar i) te n2 D σ H := by
  refine h a hm c F H (Evl.Ex.refl _) k _ fun v F2 H2 e2 k2 r2 => ⟨_, hx, ?_⟩
  obtain ⟨_, _, o, g3, dx, vs, rfl, g4⟩ := k2.at_ j hj
  obtain ⟨a0, a1, rfl, rfl⟩ := put4_2_some hs
  obtain ⟨v0, v1, rfl, g5, g6⟩ := g4
  have e : putF n2 v [(n0, v0), (n1, v1)] = [(n0, v0), (n1, v1), (n2, v)] := by
    simp [putF, nh0, nh1]
  refine ⟨p, C, dx, _, rfl, g3, hC, hn, (by show 2 < 1000; decide), ?_⟩
  rw [e]
  exact n F2 _ e2 (k2.set j hj ⟨dx, _, rfl, v0, v1, v, rfl, g5, g6, r2⟩)
theorem q_put4_2 {i j : Nat} {p : Addr} {a : α2} {s s' : Option α0 × Option α1 × Option α2 × Option α3} {m : Option α2} (hC : Cls K C) (hn : NoAttr K C n2) (nh0 : ¬ n0 = n2) (nh1 : ¬ n1 = n2) (hx : σ[i]? = some (some (.ref p))) (hj : cs[j]? = some (p, cO4 C n0 n1 n2 n3 r0 r1 r2 r3 s)) (h : EM r2 te σ F cs m) (hm : m = some a) (hs : put4_2 s a = some s') (k : Cov c F cs H) (n : ∀ F2 H2, Ex F F2 → Cov c F2 (cs.set j (p, cO4 C n0 n1 n2 n3 r0 r1 r2 r3 s')) H2 → tz D σ H2) : tSeq (sFld K (tVar i) te n2) tz D σ H := a_put4_2 (D := { D with nx := tz D }) hC hn nh0 nh1 hx hj h hm hs k n
theorem a_put4_3 {i j : Nat} {p : Addr} {a : α3} {s s' : Option α0 × Option α1 × Option α2 × Option α3} {m : Option α3} (hC : Cls K C) (hn : NoAttr K C n3) (nh0 : ¬ n0 = n3) (nh1 : ¬ n1 = n3) (nh2 : ¬ n2 = n3) (hx : σ[i]? = some (some (.ref p))) (hj : cs[j]? = some (p, cO4 C n0 n1 n2 n3 r0 r1 r2 r3 s)) (h : EM r3 te σ F cs m) (hm : m = some a) (hs : put4_3 s a = some s') (k : Cov c F cs H) (n : ∀ F2 H2, Ex F F2 → Cov c F2 (cs.set j (p, cO4 C n0 n1 n2 n3 r0 r1 r2 r3 s')) H2 → D.nx σ H2) : sFld K (tVar i) te n3 D σ H := by
  refine h a hm c F H (Evl.Ex.refl _) k _ fun v F2 H2 e2 k2 r2 => ⟨_, hx, ?_⟩
  obtain ⟨_, _, o, g3, dx, vs, rfl, g4⟩ := k2.at_ j hj
  obtain ⟨a0, a1, a2, rfl, rfl⟩ := put4_3_some hs
  obtain ⟨v0, v1, v2, rfl, g5, g6, g7⟩ := g4
  have e : putF n3 v [(n0, v0), (n1, v1), (n2, v2)] = [(n0, v0), (n1, v1), (n2, v2), (n3, v)] := by
    simp [putF, nh0, nh1, nh2]
  refine ⟨p, C, dx, _, rfl, g3, hC, hn, (by show 3 < 1000; decide), ?_⟩
  rw [e]
  exact n F2 _ e2 (k2.set j hj ⟨dx, _, rfl, v0, v1, v2, v, rfl, g5, g6, g7, r2⟩)
theorem em_make4_3 {m : (Option α0 × Option α1 × Option α2 × Option α3) → β1 → β2 → β3 → Option (Unit × (Option α0 × Option α1 × Option α2 × Option α3))} {m1 : Option β1} {m2 : Option β2} {m3 : Option β3} (h1 : EM s1 t1 σ F cs m1) (h2 : EM s2 t2 σ F cs m2) (h3 : EM s3 t3 σ F cs m3) : EM (rO4 C n0 n1 n2 n3 r0 r1 r2 r3) (tMake C (MPsp3 (cO4 C n0 n1 n2 n3 r0 r1 r2 r3) s1 s2 s3 rNon m) [] E (tCons t1 (tCons t2 (tCons t3 tNil)))) σ F cs (o3 (fun a1 a2 a3 => (m (none, none, none, none) a1 a2 a3).bind fun r => finO4 r.2) m1 m2 m3) := fun d q c F0 H0 e0 k0 Q hQ => by
  obtain ⟨b1, b2, b3, q1, q2, q3, q9⟩ := o3_some q
  obtain ⟨⟨⟨⟩, st⟩, q4, q5⟩ := bind_some q9
  refine h1 b1 q1 c F0 H0 e0 k0 _ fun v1 F1 H1 e1 k1 x1 => ?_
  have f1 := e0.trans e1
  refine h2 b2 q2 c F1 H1 f1 k1 _ fun v2 F2 H2 e2 k2 x2 => ?_
  have f2 := f1.trans e2
  refine h3 b3 q3 c F2 H2 f2 k2 _ fun v3 F3 H3 e3 k3 x3 => ?_
  intro x dx hx hdx hne
  have f9 := k3.fnone hdx
  have k8 := k3.lay (o := .own x) hdx
  have hx3 : upd H3 dx (.own x) x = none := by rw [upd_ne (fun z => hne z.symm)]; exact hx
  have k9 := k8.own0 (o := .ins C dx []) (x := cO4 C n0 n1 n2 n3 r0 r1 r2 r3 (none, none, none, none)) hx3 ⟨dx, [], rfl, rfl⟩
  have g3 := Ex.new (o := HO.own x) f9
  refine ⟨_, x, v1, v2, v3, (none, none, none, none), b1, b2, b3, (), st, rfl, (k9.keepN 1).base, s1.up ((e2.trans e3).trans g3) x1, s2.up (e3.trans g3) x2, s3.up g3 x3, q4, fun v F9 H9 kx r9 => ⟨r9, ?_⟩⟩
  have k5 := k9.call1 kx
  obtain ⟨f1, _, o, g4, dy, vs, rfl, g5⟩ := k5.head
  have q5 := finO4_some q5
  subst q5
  obtain ⟨w0, w1, w2, w3, hv, y0, y1, y2, y3⟩ := g5
  subst hv
  have hn : c.H0 x = none := k3.dom x hx
  have k6 := k5.freeze g4 hn
  exact hQ (.ref x) _ H9 (((((e1.trans e2).trans e3).trans g3).trans kx.fz).trans (Ex.new f1)) k6 ⟨x, dy, w0, w1, w2, w3, rfl, upd_same, r0.up (Ex.new f1) y0, r1.up (Ex.new f1) y1, r2.up (Ex.new f1) y2, r3.up (Ex.new f1) y3⟩
end
end Mw

set_option maxHeartbeats 2000000
/-! dicts whose keys are tuples of ints; sorted lists -/
namespace Mw
open PySem L2
open Evl (Ex)
section
variable {α β : Type}
def dGet (ds : List (List Int × β)) (k : List Int) : Option β := (ds.find? fun d => decide (d.1 = k)).map (·.2)
def dPut (ds : List (List Int × β)) (k : List Int) (x : β) : List (List Int × β) := if (ds.any fun d => decide (d.1 = k)) = true then ds.map fun d => if d.1 = k then (d.1, x) else d else ds ++ [(k, x)]
def dInG (k : List Int) (ds : List (List Int × β)) : Option Bool := some (dGet ds k).isSome
def dNotInG (k : List Int) (ds : List (List Int × β)) : Option Bool := some (!(dGet ds k).isSome)
def dGetG (ds : List (List Int × β)) (k : List Int) : Option β := dGet ds k
def dPutG (ds : List (List Int × β)) (k : List Int) (x : β) : Option (List (List Int × β)) := if ds.length ≤ 16000000 then some (dPut ds k x) else none
abbrev kI (k : List Int) : List L2.Key := k.map Sum.inl
theorem kI_inj : ∀ {a b : List Int}, kI a = kI b → a = b
  | [], [], _ => rfl
  | [], _ :: _, h => by cases h
  | _ :: _, [], h => by cases h
  | x :: a, y :: b, h => by
    have h1 : (Sum.inl x : L2.Key) :: kI a = Sum.inl y :: kI b := h
    injection h1 with h2 h3
    injection h2 with h2
    rw [h2, kI_inj h3]
theorem kI_kV (k : List Int) : (kI k).map kV = k.map V.int := by
  rw [List.map_map]
  rfl
abbrev Rkv (rb : Rp β) (F : Hp) : List (List L2.Key × V) → List (List Int × β) → Prop := Paired fun kv d => kv.1 = kI d.1 ∧ rb.r F kv.2 d.2
variable {rb : Rp β} {F F' : Hp}
theorem Rkv.up {kvs : List (List L2.Key × V)} {ds : List (List Int × β)} (e : Ex F F') (h : Rkv rb F kvs ds) : Rkv rb F' kvs ds := L2.Paired.mapP h fun _ _ q => ⟨q.1, rb.up e q.2⟩
theorem Rkv.get {k : List Int} : ∀ {kvs : List (List L2.Key × V)} {ds : List (List Int × β)}, Rkv rb F kvs ds → match dGet ds k with
    | none => valV kvs (kI k) = none
    | some x => ∃ v, valV kvs (kI k) = some v ∧ rb.r F v x
  | [], [], .nil => rfl
  | kv :: kvs, d :: ds, .cons r t => by
    have ih := Rkv.get (k := k) t
    unfold dGet valV at ih ⊢
    by_cases q : d.1 = k
    · have q2 : kv.1 = kI k := by rw [r.1, q]
      rw [List.find?_cons_of_pos (by simpa using q), List.find?_cons_of_pos (by simpa using q2)]
      exact ⟨kv.2, rfl, r.2⟩
    · have q2 : ¬ kv.1 = kI k := fun z => q (kI_inj (by rw [← r.1, z]))
      rw [List.find?_cons_of_neg (by simpa using q), List.find?_cons_of_neg (by simpa using q2)]
      exact ih
theorem Rkv.any {k : List Int} : ∀ {kvs : List (List L2.Key × V)} {ds : List (List Int × β)}, Rkv rb F kvs ds → (kvs.any fun kv => decide (kv.1 = kI k)) = ds.any fun d => decide (d.1 = k)
  | [], [], .nil => rfl
  | kv :: kvs, d :: ds, .cons r t => by
    rw [List.any_cons, List.any_cons, Rkv.any t]
    congr 1
    refine decide_eq_decide.mpr ⟨fun z => kI_inj (by rw [← r.1, z]), fun z => by rw [r.1, z]⟩
theorem Rkv.put {k : List Int} {v : V} {x : β} (hv : rb.r F v x) {kvs : List (List L2.Key × V)} {ds : List (List Int × β)} (h : Rkv rb F kvs ds) : Rkv rb F (putK kvs (kI k) v) (dPut ds k x) := by
  unfold putK dPut
  rw [h.any]
  split
  · have key : ∀ {kvs : List (List L2.Key × V)} {ds : List (List Int × β)}, Rkv rb F kvs ds → Rkv rb F (kvs.map fun kv => if kv.1 = kI k then (kv.1, v) else kv) (ds.map fun d => if d.1 = k then (d.1, x) else d) := by
      intro kvs ds h
      induction h with
      | nil => exact .nil
      | @cons kv d kvs ds r t ih =>
        refine .cons ?_ ih
        by_cases q : d.1 = k
        · have q2 : kv.1 = kI k := by rw [r.1, q]
          simp only [if_pos q, if_pos q2]
          exact ⟨r.1, hv⟩
        · have q2 : ¬ kv.1 = kI k := fun z => q (kI_inj (by rw [← r.1, z]))
          simp only [if_neg q, if_neg q2]
          exact r
    exact key h
  · have key : ∀ {kvs : List (List L2.Key × V)} {ds : List (List Int × β)}, Rkv rb F kvs ds → Rkv rb F (kvs ++ [(kI k, v)]) (ds ++ [(k, x)]) := by
      intro kvs ds h
      induction h with
      | nil => exact .cons ⟨rfl, hv⟩ .nil
      | cons r t ih => exact .cons r ih
    exact key h
def rDic (rb : Rp β) : Rp (List (List Int × β)) := ⟨fun H v ds => ∃ a kvs, v = .ref a ∧ H a = some (.dT kvs) ∧ Rkv rb H kvs ds, fun e ⟨a, kvs, h1, h2, h3⟩ => ⟨a, kvs, h1, e _ _ h2, Rkv.up e h3⟩⟩
def cDic (rb : Rp β) (ds : List (List Int × β)) : Cp := ⟨fun F o => ∃ kvs, o = .dT kvs ∧ Rkv rb F kvs ds, fun e ⟨kvs, h1, h2⟩ => ⟨kvs, h1, Rkv.up e h2⟩, fun ⟨_, h, _⟩ => by subst h; trivial⟩
/-- a dict, frozen or a cell -/
def DR (rb : Rp β) (cs : Cs) (F : Hp) (v : V) (ds : List (List Int × β)) : Prop := (rDic rb).r F v ds ∨ ∃ p, v = .ref p ∧ (p, cDic rb ds) ∈ cs
theorem DR.up {cs : Cs} {v : V} {ds : List (List Int × β)} (h : DR rb cs F v ds) (e : Ex F F') : DR rb cs F' v ds := h.imp ((rDic rb).up e) fun q => q
theorem DR.see {c : Act} {cs : Cs} {H : Hp} {v : V} {ds : List (List Int × β)} (h : DR rb cs F v ds) (k : Cov c F cs H) : ∃ a kvs, v = .ref a ∧ H a = some (.dT kvs) ∧ Rkv rb F kvs ds := by
  rcases h with ⟨a, kvs, h1, h2, h3⟩ | ⟨p, h1, h2⟩
  · exact ⟨a, kvs, h1, k.ex _ _ h2, h3⟩
  · obtain ⟨_, _, o, h3, kvs, rfl, h4⟩ := k.cell _ h2
    exact ⟨p, kvs, h1, h3, h4⟩
def ED (rb : Rp β) (te : TE) (σ : L2.St) (F : Hp) (cs : Cs) (m : Option (List (List Int × β))) : Prop := ∀ d, m = some d → ∀ c F1 H, Ex F F1 → Cov c F1 cs H → ∀ Q : VK, (∀ v F2 H2, Ex F1 F2 → Cov c F2 cs H2 → DR rb cs F2 v d → Q v H2) → te σ H Q
end
section
variable {β : Type} {rb : Rp β} {σ : L2.St} {F H : Hp} {cs : Cs} {K : PySem.W.Frag} {td ty tv te : TE} {md : Option (List (List Int × β))} {mk : Option (List Int)} {c : Act} {D : Ends} {tz : TS}
theorem EM.ed (h : EM (rDic rb) td σ F cs md) : ED rb td σ F cs md := fun d q c F1 H e k Q hQ => h d q c F1 H e k Q fun v F2 H2 e2 k2 r2 => hQ v F2 H2 e2 k2 (.inl r2)
theorem ed_cell {i j : Nat} {p : Addr} {ds : List (List Int × β)} (h : σ[i]? = some (some (.ref p))) (hj : cs[j]? = some (p, cDic rb ds)) : ED rb (tVar i) σ F cs (some ds) := fun d q c F1 H e k Q hQ => by
  cases q
  exact ⟨_, h, hQ _ F1 H (Evl.Ex.refl _) k (.inr ⟨p, rfl, List.mem_of_getElem? hj⟩)⟩
theorem tup_key {v : V} {k : List Int} {c : Act} (kc : Cov c F cs H) (r : (rTup K rInt).r F v k) : ∃ b, v = .ref b ∧ H b = some (.tup ((kI k).map kV)) := by
  obtain ⟨b, vs, rfl, h1, h2⟩ := r
  refine ⟨b, rfl, ?_⟩
  have e : vs = k.map V.int := by
    clear h1
    induction h2 with
    | nil => rfl
    | cons r t ih => rw [List.map_cons, ← ih, r]
  rw [kI_kV, ← e]
  exact kc.ex _ _ h1
theorem em_din (hk : EM (rTup K rInt) ty σ F cs mk) (hd : ED rb td σ F cs md) : EM rBool (tDIn ty td) σ F cs (o2 dInG mk md) := fun d q c F1 H e k Q hQ => by
  obtain ⟨a, b, q1, q2, q3⟩ := o2_some q
  cases q3
  refine hk a q1 c F1 H e k _ fun v F2 H2 e2 k2 r2 => hd b q2 c F2 H2 (e.trans e2) k2 _ fun x F3 H3 e3 k3 r3 => ?_
  obtain ⟨p, kvs, rfl, h1, h2⟩ := r3.see k3
  obtain ⟨t, rfl, ht⟩ := tup_key k3 ((rTup K rInt).up e3 r2)
  refine ⟨p, _, rfl, DGet.t h1 ht, hQ _ F3 H3 (e2.trans e3) k3 ?_⟩
  show V.bl _ = V.bl _
  have g := h2.get (k := a)
  revert g
  cases dGet b a with
  | none => intro g; rw [show valV kvs (kI a) = none from g]; rfl
  | some x => rintro ⟨v, g, _⟩; rw [g]; rfl
theorem em_dnotin (hk : EM (rTup K rInt) ty σ F cs mk) (hd : ED rb td σ F cs md) : EM rBool (tDNotIn ty td) σ F cs (o2 dNotInG mk md) := fun d q c F1 H e k Q hQ => by
  obtain ⟨a, b, q1, q2, q3⟩ := o2_some q
  cases q3
  refine hk a q1 c F1 H e k _ fun v F2 H2 e2 k2 r2 => hd b q2 c F2 H2 (e.trans e2) k2 _ fun x F3 H3 e3 k3 r3 => ?_
  obtain ⟨p, kvs, rfl, h1, h2⟩ := r3.see k3
  obtain ⟨t, rfl, ht⟩ := tup_key k3 ((rTup K rInt).up e3 r2)
  refine ⟨p, _, rfl, DGet.t h1 ht, hQ _ F3 H3 (e2.trans e3) k3 ?_⟩
  show V.bl _ = V.bl _
  have g := h2.get (k := a)
  revert g
  cases dGet b a with
  | none => intro g; rw [show valV kvs (kI a) = none from g]; rfl
  | some x => rintro ⟨v, g, _⟩; rw [g]; rfl
theorem em_dget (hd : ED rb td σ F cs md) (hk : EM (rTup K rInt) ty σ F cs mk) : EM rb (tDGet td ty) σ F cs (o2 dGetG md mk) := fun d q c F1 H e k Q hQ => by
  obtain ⟨b, a, q1, q2, q3⟩ := o2_some q
  refine hd b q1 c F1 H e k _ fun x F2 H2 e2 k2 r2 => hk a q2 c F2 H2 (e.trans e2) k2 _ fun v F3 H3 e3 k3 r3 => ?_
  obtain ⟨p, kvs, rfl, h1, h2⟩ := (r2.up e3).see k3
  obtain ⟨t, rfl, ht⟩ := tup_key k3 r3
  have g := h2.get (k := a)
  rw [show dGet b a = some d from q3] at g
  obtain ⟨v, g1, g2⟩ := g
  exact ⟨p, v, rfl, by rw [← g1]; exact DGet.t h1 ht, hQ v F3 H3 (e2.trans e3) k3 g2⟩
theorem em_lenD (hd : ED rb td σ F cs md) : EM rInt (tCB rLenT (tCons td tNil)) σ F cs (md.map fun d => (d.length : Int)) := fun d q c F1 H e k Q hQ => by
  cases md with
  | none => cases q
  | some b =>
    cases q
    refine hd b rfl c F1 H e k _ fun x F2 H2 e2 k2 r2 => ?_
    obtain ⟨p, kvs, rfl, h1, h2⟩ := r2.see k2
    exact ⟨p, kvs, rfl, h1, hQ _ F2 H2 e2 k2 (by show V.int _ = V.int _; rw [h2.length])⟩
/-- d = {} -/
theorem a_newD {i : Nat} (k : Cov c F cs H) (n : ∀ p F2 H2, Ex F F2 → Cov c F2 (cs ++ [(p, cDic rb [])]) H2 → c.H0 p = none → D.nx (σ.set i (some (.ref p))) H2) : tAsg tDNewT (gName i) D σ H := fun p hp =>
  n p F _ (Evl.Ex.refl _) (k.own hp ⟨[], rfl, .nil⟩) (k.dom p hp)
theorem q_newD {i : Nat} (k : Cov c F cs H) (n : ∀ p F2 H2, Ex F F2 → Cov c F2 (cs ++ [(p, cDic rb [])]) H2 → c.H0 p = none → tz D (σ.set i (some (.ref p))) H2) : tSeq (tAsg tDNewT (gName i)) tz D σ H := a_newD (D := { D with nx := tz D }) k n
/-- d[k] = v -/
theorem a_dput {i j : Nat} {p : Addr} {ds ds' : List (List Int × β)} {mv : Option β} {x : β} {kk : List Int} (hx : σ[i]? = some (some (.ref p))) (hj : cs[j]? = some (p, cDic rb ds)) (hv : EM rb tv σ F cs mv) (hk : EM (rTup K rInt) ty σ F cs mk) (h1 : mv = some x) (h2 : mk = some kk) (h3 : dPutG ds kk x = some ds') (k : Cov c F cs H)
    (n : ∀ F2 H2, Ex F F2 → Cov c F2 (cs.set j (p, cDic rb ds')) H2 → D.nx σ H2) : sDPut (tVar i) ty tv D σ H := by
  refine hv x h1 c F H (Evl.Ex.refl _) k _ fun v F2 H2 e2 k2 r2 => ⟨_, hx, ?_⟩
  refine hk kk h2 c F2 H2 e2 k2 _ fun y F3 H3 e3 k3 r3 => ?_
  obtain ⟨_, _, o, g3, kvs, rfl, g4⟩ := k3.at_ j hj
  obtain ⟨t, rfl, ht⟩ := tup_key k3 r3
  unfold dPutG at h3
  split at h3
  · rename_i hz
    cases h3
    exact ⟨p, _, rfl, DPut.t g3 ht (sz_lt (by rw [g4.length]; omega)), n F3 _ (e2.trans e3) (k3.set j hj ⟨_, rfl, g4.put (rb.up e3 r2)⟩)⟩
  · cases h3
theorem q_dput {i j : Nat} {p : Addr} {ds ds' : List (List Int × β)} {mv : Option β} {x : β} {kk : List Int} (hx : σ[i]? = some (some (.ref p))) (hj : cs[j]? = some (p, cDic rb ds)) (hv : EM rb tv σ F cs mv) (hk : EM (rTup K rInt) ty σ F cs mk) (h1 : mv = some x) (h2 : mk = some kk) (h3 : dPutG ds kk x = some ds') (k : Cov c F cs H)
    (n : ∀ F2 H2, Ex F F2 → Cov c F2 (cs.set j (p, cDic rb ds')) H2 → tz D σ H2) : tSeq (sDPut (tVar i) ty tv) tz D σ H := a_dput (D := { D with nx := tz D }) hx hj hv hk h1 h2 h3 k n
theorem Cov.frzD {p : Addr} {ds : List (List Int × β)} (k : Cov c F cs H) (j : Nat) (hj : cs[j]? = some (p, cDic rb ds)) (hn : c.H0 p = none) : ∃ F2, Ex F F2 ∧ Cov c F2 (cs.eraseIdx j) H ∧ (rDic rb).r F2 (.ref p) ds := by
  obtain ⟨f1, _, o, f3, kvs, rfl, f4⟩ := k.at_ j hj
  exact ⟨_, Ex.new f1, k.frzAt j hj f3 hn, p, kvs, rfl, upd_same, Rkv.up (Ex.new f1) f4⟩
theorem un1 {k : Nat} {A : Around} (r : Room k A) : A.units + 1 < cLine := by have := r.un; omega
/-! sorted -/
def decI (F : Hp) (x : V) : List Int := match x with
  | .ref t => match F t with
    | some (.tup us) => us.map fun v => match v with
      | .int i => i
      | _ => 0
    | _ => []
  | _ => []
theorem decI_ok {v : V} {k : List Int} (r : (rTup K rInt).r F v k) : decI F v = k ∧ ∃ t, v = .ref t ∧ F t = some (.tup (k.map V.int)) := by
  obtain ⟨b, vs, rfl, h1, h2⟩ := r
  have e : vs = k.map V.int := by
    clear h1
    induction h2 with
    | nil => rfl
    | cons r t ih => rw [List.map_cons, ← ih, r]
  subst e
  refine ⟨?_, b, rfl, h1⟩
  unfold decI
  simp only [h1, List.map_map]
  exact List.map_id'' (fun _ => rfl) k
def sortG (l : List (List Int)) : Option (List (List Int)) := if (l.all fun k => !k.isEmpty) = true ∧ l.length ≤ 16000000 then some (srtT l) else none
theorem decs {vs : List V} {ds : List (List Int)} (r : Rs (rTup K rInt) F vs ds) : vs.map (decI F) = ds := by
  induction r with
  | nil => rfl
  | cons r t ih => rw [List.map_cons, ih, (decI_ok r).1]
theorem rs_mem {α : Type} {ra : Rp α} {F : Hp} : ∀ {vs : List V} {ds : List α}, Rs ra F vs ds → ∀ {x : V}, x ∈ vs → ∃ d, d ∈ ds ∧ ra.r F x d
  | _ :: _, _ :: _, .cons r t, x, hx => by
    rcases List.mem_cons.mp hx with rfl | hx
    · exact ⟨_, by simp, r⟩
    · obtain ⟨d, h3, h4⟩ := rs_mem t hx
      exact ⟨d, List.mem_cons_of_mem _ h3, h4⟩
theorem ef_sortT {ta : TE} {m : Option (List (List Int))} (h : EL K (rTup K rInt) ta σ F cs m) : EF (rTup K rInt) (tCB (rSortedTI K) (tCons ta tNil)) σ F cs (o1 sortG m) := fun d q c F1 H e k Q hQ => by
  obtain ⟨l, q1, q2⟩ := o1_some q
  unfold sortG at q2
  split at q2
  · rename_i hz
    cases q2
    refine h l q1 c F1 H e k _ fun v F2 H2 e2 k2 r2 => ?_
    obtain ⟨a, vs, rfl, h1, h2⟩ := r2.see k2
    have hm := decs h2
    have mem : ∀ x ∈ vs, ∃ d, d ∈ l ∧ (rTup K rInt).r F2 x d := fun x hx => rs_mem h2 hx
    refine ⟨a, vs, decI F2, rfl, h1, fun x hx => ?_, fun ys p hs hb hp => ?_⟩
    · obtain ⟨d, hd, hr⟩ := mem x hx
      obtain ⟨g1, t, g2, g3⟩ := decI_ok hr
      refine ⟨?_, t, g2, by rw [g1]; exact k2.ex _ _ g3⟩
      have := List.all_eq_true.mp hz.1 d hd
      rw [g1]
      intro z
      rw [z] at this
      cases this
    · have e1 : ys.map (decI F2) = srtT l := by
        refine srtd_uniq (List.pairwise_map.mpr hs) (srtT_srtd l) ?_
        have := hb.perm.map (decI F2)
        rw [hm] at this
        exact this.trans (srtT_perm l).symm
      have e2' : Rs (rTup K rInt) F2 ys (srtT l) := by
        rw [← e1]
        have : ∀ y ∈ ys, (rTup K rInt).r F2 y (decI F2 y) := fun y hy => by
          obtain ⟨d, _, hr⟩ := mem y (hb.perm.mem_iff.mp hy)
          rw [(decI_ok hr).1]
          exact hr
        clear e1 hs hb
        induction ys with
        | nil => exact .nil
        | cons y ys ih => exact .cons (this y (by simp)) (ih fun z hz => this z (List.mem_cons_of_mem _ hz))
      exact hQ p F2 _ e2 (k2.own hp ⟨_, rfl, e2'⟩) (k2.dom p hp)
  · cases q2
end
end Mw

set_option maxHeartbeats 2000000
/-! the operators of an own class: x in obj, len(obj) -/
namespace Mw
open PySem L2 PySem.Spec PyProof.Rows PySem.W
section
variable {X : Cx} {CX : CXT} {k : Nat} {C g a dx : Addr} {fs : List (Str × V)} {fd : FuncData} {ps : List Str} {sp : Sp} {dvs : List V} {ds : List Value} {E : XK}
/-- the class (or one above it) has the name as a def at g -/
structure DefOf (K : PySem.W.Frag) (C : Addr) (f : Str) (g : Addr) : Prop where
  at_ : PySem.W.findIn K (.ref C) f = some (some (.ref g))
  fn : PySem.W.isFn K (.ref g) = true
def BlQ (Q : VK) : VK := fun v H => ∃ b, v = .bl b ∧ Q (.bl b) H
def LnQ (Q : VK) : VK := fun v H => ∃ n : Int, v = .int n ∧ 0 ≤ n ∧ n < 2 ^ 62 ∧ Q (.int n) H
def rLenO (C : Addr) (sp : Sp) (dvs : List V) (E : XK) : List V → Hp → VK → Prop := fun vs H Q => ∃ a dx fs, vs = [V.ref a] ∧ H a = some (.ins C dx fs) ∧ sp (.ref a :: dvs) H (LnQ Q) E
theorem cr_lenO (dn : DefOf X.K C "__len__" g) (F : FnOk X.prog X.w X.K X.mg X.base CX k g fd ps sp) (hr : Room (k + 1) X.A) (hb : Binds X.K fd ps ds) (hd : Vals dvs ds) (hx : Passes CX X E) : CallR X (.builtin "len") (rLenO C sp dvs E) := by
  intro pins s σ H vs us Q I r h
  obtain ⟨a, dx, fs, rfl, ea, h⟩ := h
  cases r with
  | cons r0 rt =>
    cases rt
    rename_i u
    obtain rfl : u = Value.ref a := r0
    obtain ⟨mA, O, _, _, _, _⟩ := ins_get I.hok ea
    obtain ⟨od, J, _⟩ := O.look
    obtain ⟨m, Fm⟩ := I.fr
    have hl : ([Value.ref a] ++ ds).length = ps.length := by
      rw [← F.len _ _ _ _ h]
      show ds.length + 1 = dvs.length + 1
      rw [hd.length]
    refine len_K Fm I.ok.mod.kin J dn.at_ dn.fn (wpAny_call (codeAny_mono (F.run X.A.in1 X.stack s H ⟨[.ref a], []⟩ (.ref a :: ds) (.ref a :: dvs) (LnQ Q) E hr.in1 I.env0.in1 (hb s [.ref a] I.kIn hl) (.cons rfl hd) h) fun r s' hq => ?_))
    cases r with
    | error e => exact hx pins σ H s e s' I hq
    | ok fl =>
      cases fl with
      | ret u =>
        obtain ⟨v, H', I3, rv, n, rfl, h0, h1, q⟩ := I.after hq
        obtain ⟨t, rfl⟩ := rv
        exact ⟨⟨h0, by omega⟩, V.int n, H', I3.tok _, ⟨_, rfl⟩, q⟩
      | next => exact False.elim hq
      | brk => exact False.elim hq
      | cont => exact False.elim hq
end
section
variable {ω α : Type} {ro : Rp ω} {ra : Rp α} {C : Addr} {E : XK}
/-- len() of an own object: its def must give a fitting number -/
def lenO (g : ω → Option Int) (o : ω) : Option Int := (g o).bind fun n => if 0 ≤ n ∧ n < 2 ^ 62 then some n else none
theorem vc_lenO {g : ω → Option Int} (ho : ObjP C ro) : VC (rLenO C (Psp1 ro rInt g) [] E) ro rInt (lenO g) := fun c F cs H x a d k r1 q Q hQ => by
  obtain ⟨p, dx, fs, rfl, g1⟩ := ho _ _ _ r1
  obtain ⟨n, q1, q2⟩ := Option.bind_eq_some_iff.mp q
  split at q2
  · rename_i hn
    cases q2
    refine ⟨p, dx, fs, rfl, k.ex _ _ g1, ?_⟩
    exact ⟨F, .ref p, a, d, rfl, k.ex, r1, q1, fun v F9 H9 k9 r9 => ⟨d, r9, hn.1, hn.2, hQ _ F9 H9 k9.fz (k.call0 k9) rfl⟩⟩
  · cases q2
end
end Mw
namespace Mw
open PySem PySem.Spec PyProof.Rows L2
/-- an own operator's def, ready to be called -/
structure CalO (P : Program) (w : World) (K : PySem.W.Frag) (mg : Str → Option Value) (base : Heap) (k : Nat) (C : Addr) (m : Str) (ps : List Str) (sp : Sp) (X : FuncData → Prop) : Prop where
  ex : ∃ f fd, FnOk P w K mg base CX0 k f fd ps sp ∧ DefOf K C m f ∧ Binds K fd ps [] ∧ X fd
end Mw
namespace Hm
open PySem PySem.Spec PyProof.Rows L2 He Mw
def defB (x f : Str) : Fc := fun K => eqO (PySem.W.findIn K (.ref (ga K x)) f) (some (some (.ref (ma K (ga K x) f)))) && PySem.W.isFn K (.ref (ma K (ga K x) f))
theorem defO_ok {K : PySem.W.Frag} {x f : Str} (c : defB x f K = true) : DefOf K (ga K x) f (ma K (ga K x) f) := by
  obtain ⟨c1, c2⟩ := ba c
  exact ⟨eqO_ok c1, c2⟩
end Hm

set_option maxHeartbeats 2000000
/-! Exceptions: one that was caught stays tracked; raise, try. -/
namespace L2
open PySem PySem.Spec PyProof.Rows
/-- an exception that was caught: its class, its dict -/
def exT (a : Addr) (cls : Value) (d : Option Addr) : HO := .ext fun h => ∃ (oe : Obj) (vs : Array Value), h.get? a = some oe ∧ Zc cls d oe ∧ oe.data = .fields vs
theorem exT_ok {P : Program} {w : World} {H : Hp} {h : Heap} {a : Addr} {cls : Value} {d : Option Addr} {oe : Obj} {vs : Array Value} (e : h.get? a = some oe) (z : Zc cls d oe) (dd : oe.data = .fields vs) : ObjOk P w H h a (exT a cls d) :=
  ⟨⟨oe, vs, e, z, dd⟩, ⟨oe, e⟩, fun _ _ ⟨o, v, q, r⟩ k => ⟨o, v, k o q, r⟩⟩
theorem exT_at {P : Program} {w : World} {H : Hp} {h : Heap} {a : Addr} {cls : Value} {d : Option Addr} (hok : HOk P w H h) (e : H a = some (exT a cls d)) : ∃ (oe : Obj) (vs : Array Value), h.get? a = some oe ∧ Zc cls d oe ∧ oe.data = .fields vs := by
  have x : ObjOk P w H h a (.ext fun h => ∃ (oe : Obj) (vs : Array Value), h.get? a = some oe ∧ Zc cls d oe ∧ oe.data = .fields vs) := hok a _ e
  exact x.1
section
variable {X : Cx} {pins : List (Addr × Obj)} {σ : St} {H : Hp} {s : Shared}
/-- a record that stands in the heap since the entry is tracked from here on -/
theorem Inv.track {a : Addr} {oe : Obj} {vs : Array Value} {cls : Value} {d : Option Addr} (I : Inv X pins σ H s) (h0 : X.s_0.heap.get? a = none) (hp : ∀ p ∈ X.pn ++ pins, p.1 ≠ a) (ha : s.heap.get? a = some oe) (z : Zc cls d oe) (hd : oe.data = .fields vs)
    (na : H a = none) (nL : a ≠ X.env.locals) : Inv X pins σ (upd H a (exT a cls d)) s := by
  have ne0 : ∀ b o, X.s_0.heap.get? b = some o → b ≠ a := fun b o e q => by rw [q, h0] at e; cases e
  have neH : ∀ {b u}, H b = some u → b ≠ a := fun {b u} e => ne_of_none e na
  refine ⟨I.ok, I.os, I.bare, ⟨fun b o e n hb hx => I.base.keep b o e n hb hx, fun b o e n hb hx => I.base.slot b o e n hb hx, fun b o e n hx => ?_, fun b o e hx => I.base.there b o e hx, fun b xs e => ?_, fun b o u e => ?_, fun b ps e => ?_⟩, I.loc, I.cell, ?_, fun x c e => ?_, fun p q => ?_, fun b u e => ?_, I.len⟩
  · rw [upd_ne (ne0 b o e)]; exact I.base.free b o e n hx
  · have q := I.base.tups b xs e
    rw [upd_ne (neH q)]; exact q
  · have q := I.base.frzs b o u e
    rw [upd_ne (neH q)]; exact q
  · obtain ⟨m, q⟩ := I.base.tbls b ps e
    exact ⟨m, by rw [upd_ne (neH q)]; exact q⟩
  · rw [upd_ne (Ne.symm nL)]; exact I.free
  · have nc : c ≠ a := fun q => by
      obtain ⟨v, o, ho, hc⟩ := I.cell x c e
      rw [q, ha] at ho
      cases ho
      rw [hd] at hc
      cases hc
    rw [upd_ne nc]; exact I.freeC x c e
  · obtain ⟨e, n, ne, nf, dd⟩ := I.pin p q
    exact ⟨e, by rw [upd_ne (hp p q)]; exact n, ne, nf, dd⟩
  · by_cases hb : b = a
    · subst hb
      rw [upd_same] at e
      cases e
      exact exT_ok ha z hd
    · rw [upd_ne hb] at e
      exact (I.hok b u e).stay (fun _ _ _ q => q) (fun c q => by rw [upd_ne (neH q)]; exact q) fun c xs q => by rw [upd_ne (neH q)]; exact q
/-- the context of an except suite whose exception is tracked -/
abbrev Cx.suT (X : Cx) (a : Addr) (pn : List (Addr × Obj)) : Cx := { X with A := X.A.mark (some (.ref a)), calm := false, pn := pn, xe := fun _ _ => False }
theorem Inv.suT (I : Inv X pins σ H s) (a : Addr) : Inv (X.suT a (X.pn ++ pins)) [] σ H s :=
  ⟨I.ok.suite _ _, I.os, I.bare, I.base, I.loc, I.cell, I.free, I.freeC, fun p hp => I.pin p (by rw [List.append_nil] at hp; exact hp), I.hok, I.len⟩
theorem Inv.unsuT {a : Addr} {pn' : List (Addr × Obj)} (I : Inv (X.suT a (X.pn ++ pins)) pn' σ H s) (ok : X.Ok) : Inv X pins σ H s :=
  ⟨ok, I.os, I.bare, I.base, I.loc, I.cell, I.free, I.freeC, fun p hp => I.pin p (List.mem_append_left _ hp), I.hok, I.len⟩
end
/-- what the clause 'except x as n' wishes of an exception of the body (n's slot is i), the exception tracked -/
def wAsT (K : PySem.W.Frag) (c : Value) (i : Nat) (ts : TS) (Wout : WX) (D : Ends) : WX := fun cls d σ H =>
  ∃ b, PySem.W.exmOne K cls c = some b ∧ (b = true → ∀ a, H a = none → ts { nx := fun σ' H' => D.nx (σ'.set i none) H', rt := D.rt, bk := fun σ' H' => D.bk (σ'.set i none) H', ct := fun σ' H' => D.ct (σ'.set i none) H' } (σ.set i (some (.ref a))) (upd H a (exT a cls d))) ∧
    (b = false → Wout cls d σ H)
section
variable {X : Cx} {x n : Str} {c : Value} {i : Nat} {body suite : List Stmt} {b₀ : Stmt} {np pos pos' : Pos} {tb : WX → TS} {ts : TS} {Wout : WX}
theorem ps_try_T (hs : X.stack = X.env :: X.outer) (hf : X.env.frame = some X.env.locals) (hex : X.ex = []) (hN : X.N.Nodup) (hi : X.N[i]? = some n) (hln : X.env.kindOf n = some .local) (hc : Names X x c) (tk : Takes X Wout)
    (hb : ∀ (W : WX) (pn : List (Addr × Obj)) (xe : Value → Shared → Prop), Takes (X.tr pn xe) W → PassesOwn (model X.prog X.w) X.A X.env xe → PSs (X.tr pn xe) body (tb W))
    (hsu : ∀ (a : Addr) (pn : List (Addr × Obj)), PSs (X.suT a pn) (b₀ :: suite) ts) :
    PS X (.Try body [.ExceptHandler (some (.Name x np)) (some n) (b₀ :: suite) pos'] [] [] pos) (fun D σ H => tb (wAsT X.K c i ts Wout D) D σ H) := by
  refine ⟨fun pins s σ H D I h => ?_⟩
  have ok := I.ok
  have hfr : X.A.frames = some (X.env :: X.outer) := by rw [ok.frames, hs]
  have hloc : Loc X.env.scope n := .inl hln
  refine wpAny_Try_except ?_
  refine wpAny_mono ((hb (wAsT X.K c i ts Wout D) (X.pn ++ pins) (fun e s₁ => wpAny (model X.prog X.w) X.A (noteFrame e X.env) (fun _ s₂ => wpAny (model X.prog X.w) X.A (setFlight e none) (fun _ s₃ =>
    wpAny (model X.prog X.w) X.A (handleBy e X.env [.ExceptHandler (some (.Name x np)) (some n) (b₀ :: suite) pos']) (SP X pins D) X.xe s₃) X.xe s₂) X.xe s₁) (fun u s' xx => ?_) PassesOwn.looking).run [] s σ H D (I.toTry _) h) (fun f s1 hsp => ?_) (fun e s1 he => he)
  · -- the catch
    obtain ⟨a, B, sI, pins', σ', H', cls, d, rfl, J', nb, up, sky, na, os, ag, b, hb1, hyes, hno⟩ := xx
    have J : Inv X pins σ' H' sI := J'.ofTry ok
    have sky' : Sky B (X.env :: X.outer) a (Zc cls d) X.env.locals s'.heap := by rw [← hs]; exact sky
    show wpAny (model X.prog X.w) X.A (noteFrame (.ref a) X.env) _ _ _
    refine Sky.land Zc.steady hfr hf sky' fun h3 fl3 up3 => ?_
    have J3 : Inv X pins σ' H' { s' with heap := h3 } := J.landed nb fl3.1 (up.trans up3) os ag
    obtain ⟨oe3, vs3, he3, hz3, hd3⟩ := fl3.there
    have notFr : ∀ {h : Heap} {o : Obj} {vs : Array Value}, h.FunFrames B (X.env :: X.outer) → h.get? a = some o → o.data = .fields vs → a ∉ frs (X.env :: X.outer) := fun {h o vs} ff e dd hm => by
      obtain ⟨_, o', e', hnf⟩ := ff.mem hm
      rw [e] at e'; cases e'
      exact hnf _ dd
    have nfr := notFr fl3.2.2.1 he3 hd3
    have nL : a ≠ X.env.locals := fun z => nfr (List.mem_filterMap.mpr ⟨X.env, List.mem_cons_self, by rw [hf, z]⟩)
    have nF : a ∉ X.fs := fun hm => by
      obtain ⟨e, he, q⟩ := List.mem_filterMap.mp hm
      exact nfr (List.mem_filterMap.mpr ⟨e, List.mem_cons_of_mem _ he, q⟩)
    have aI : sI.heap.get? a = none := by
      cases q : sI.heap.get? a with
      | none => rfl
      | some o =>
        have z := nb a o q (by rw [hs]; exact nfr)
        rw [fl3.2.1] at z
        cases z
    have a0 : X.s_0.heap.get? a = none := by
      cases q : X.s_0.heap.get? a with
      | none => rfl
      | some o =>
        obtain ⟨o', z⟩ := J.base.there a o q (by rw [hex]; exact List.not_mem_nil)
        rw [aI] at z
        cases z
    have ap : ∀ p ∈ X.pn ++ pins, p.1 ≠ a := fun p hp q => by
      obtain ⟨z, _⟩ := J.pin p hp
      rw [q, aI] at z
      cases z
    have S3 := J3.suite he3 hd3 na nL nF
    refine wpAny_handleBy_cons (codeAny_handlers_test ?_) (by intro q; cases q)
    have LT : PySem.W.Looks (model X.prog X.w) h3 (typeOf (.ref a)) cls := fun A Q E s k q => wpAny_typeOf_ref (k _ _ he3) (by rw [hz3.1]; exact q)
    have LM := PySem.W.exm_one (M := model X.prog X.w) (J3.kIn) LT hb1
    have test : ∀ {Q : Value → Shared → Prop} {E : Value → Shared → Prop}, Q c { s' with heap := h3 } → wpAny (model X.prog X.w) (X.A.mark (some (.ref a))) (eval (.Name x np) X.env) Q E { s' with heap := h3 } := fun {Q E} q => by
      obtain ⟨hg, hdbg, hm | ⟨hm, hv, hnn⟩⟩ := hc
      · exact ld_glob (X := X.suite a ((a, oe3) :: (X.pn ++ pins))) S3 hg hm q hdbg
      · exact ld_blt (X := X.suite a ((a, oe3) :: (X.pn ++ pins))) S3 hg hm hv q hnn hdbg
    refine test (LM.here ?_)
    cases b with
    | true =>
      refine codeAny_handlers_suite_as ?_
      refine HandSPX.lands_againZ fl3 fun h4 fl4 up4 => ?_
      have J4 : Inv X pins σ' H' { s' with heap := h4 } := J.landed nb fl4.1 ((up.trans up3).trans up4) os ag
      obtain ⟨oe4, vs4, he4, hz4, hd4⟩ := fl4.there
      have S4 := (J4.track a0 ap he4 hz4 hd4 na nL).suT a
      refine store_ok (X := X.suT a (X.pn ++ pins)) (v := .ref a) S4 hN hi hloc rfl (fun s5 S5 => ?_) (.inr hln)
      refine wpAny_mono ((hsu a (X.pn ++ pins)).run [] s5 _ _ _ S5 (hyes rfl a na)) (fun f s6 hsp => ?_) (fun _ _ z => False.elim z)
      have end_ : ∀ {σ6 : St} {H6 : Hp} {Q : Shared → Prop}, Inv (X.suT a (X.pn ++ pins)) [] σ6 H6 s6 → (∀ s7, Inv X pins (σ6.set i none) H6 s7 → Q s7) →
          wpAny (model X.prog X.w) X.A (do bindName X.env n .none; unbindBehindTheSuite X.env n pos') (fun _ s7 => Q s7) X.xe s6 := fun {σ6 H6 Q} S6 hq => gone_ok (S6.unsuT ok) hN hi hln hq
      cases f with
      | next =>
        obtain ⟨σ6, H6, S6, q6⟩ := hsp
        exact end_ S6 fun s7 J7 => ⟨_, _, J7, q6⟩
      | brk =>
        obtain ⟨σ6, H6, S6, q6⟩ := hsp
        exact end_ S6 fun s7 J7 => ⟨_, _, J7, q6⟩
      | cont =>
        obtain ⟨σ6, H6, S6, q6⟩ := hsp
        exact end_ S6 fun s7 J7 => ⟨_, _, J7, q6⟩
      | ret u =>
        obtain ⟨v6, σ6, H6, S6, r6, q6⟩ := hsp
        exact end_ S6 fun s7 J7 => ⟨_, _, _, J7, r6, q6⟩
    | false =>
      show wpAny _ X.A (handleBy (.ref a) X.env []) _ _ _
      refine wpAny_handleBy_nil ?_
      obtain ⟨k1, k2, k3, oe, vs, T, oT, ts', he, hz, hd, h1, hr⟩ := id fl3
      unfold PySem.passOn
      refine wpAny_bind (wpAny_field he hd h1 ?_)
      rw [if_neg (show ¬ ((Value.ref T == Value.none) = true) from by simp)]
      have fin : wpAny (model X.prog X.w) X.A (setFlight (.ref a) X.env.frame) (fun _ s4 => wpAny (model X.prog X.w) X.A (throw (.ref a) : Sem Flow) (SP X pins D) X.xe s4) X.xe { s' with heap := h3 } := by
        rw [hf]
        refine HandSPX.setFlight_upZ fl3 fun h4 hh4 up4 => wpAny_throw (tk _ _ ?_)
        exact ⟨a, B, sI, pins, σ', H', cls, d, rfl, J, nb, (up.trans up3).trans up4, .inr (.inr (by rw [hs]; exact hh4)), na, os, ag, hno rfl⟩
      first
        | exact wpAny_bind (wpAny_pure (wpAny_bind fin))
        | exact wpAny_bind fin
  · cases f with
    | next =>
      obtain ⟨σ', H', J', q⟩ := hsp
      exact wpAny_execs_nil ⟨σ', H', J'.ofTry ok, q⟩
    | brk =>
      obtain ⟨σ', H', J', q⟩ := hsp
      exact ⟨σ', H', J'.ofTry ok, q⟩
    | cont =>
      obtain ⟨σ', H', J', q⟩ := hsp
      exact ⟨σ', H', J'.ofTry ok, q⟩
    | ret u =>
      obtain ⟨v, σ', H', J', r, q⟩ := hsp
      exact ⟨v, σ', H', J'.ofTry ok, r, q⟩
end
/-! ### the caught one: its value, its kind -/
section
variable {X : Cx}
/-- e.f, e caught -/
def tXfT (K : PySem.W.Frag) (f : Str) (te : TE) : TE := fun σ H Q => te σ H fun x H1 => ∃ (a C dd : Addr) (fs : List (Str × V)) (v : V), x = .ref a ∧ H1 a = some (exT a (.ref C) (some dd)) ∧ XfC K C ∧ PySem.W.findIn K (.ref C) f = some none ∧ H1 dd = some (.xd fs) ∧ fs.lookup f = some v ∧ Q v H1
theorem pe_xfT {e : Expr} {te : TE} {pos : Pos} {n : Str} (K : PySem.W.Frag) (hK : X.K = K) (he : PE X e te) (hb : attributeBase e n X.env (eval e X.env) = eval e X.env := by rfl) : PE X (.Attribute e n pos) (tXfT K n te) := by
  subst hK
  refine ⟨fun pins s σ H Q I h => ?_⟩
  refine attr_of hb (thn (he.run pins s σ H _ I h) fun u s1 hh => ?_)
  obtain ⟨x, H1, I1, rx, a, C, dd, fs, v, ex, ht, T, hno, ea, l, q⟩ := hh
  subst ex
  obtain rfl : u = Value.ref a := rx
  obtain ⟨oe, vs, ha, hz, hd⟩ := exT_at I1.hok ht
  have hx : ObjOk X.prog X.w H1 s1.heap dd (.xd fs) := I1.hok dd _ ea
  obtain ⟨mA, hns, hr⟩ := hx
  obtain ⟨od, ho, hl⟩ := lookIn_ns hns
  obtain ⟨u, hu, ru⟩ := RelO.some_of (v := v) (o := mA n) (by rw [← l]; exact hr n)
  have J : PySem.W.InstAt s1.heap a oe C (some od) := ⟨ha, hz.1, by unfold PySem.W.notCls; rw [hd] <;> rfl, by rw [hz.2]; exact ho⟩
  exact HandSPX.exc_get I1.kIn J T.ga T.gg T.exC (PySem.W.findObj_own T.hdC hno rfl (by rw [hl, hu])) (handed_of ru) ⟨v, H1, I1.tok _, ru, q⟩
end
end L2
/-! ### isinstance of a caught one -/
namespace L2
open PySem PySem.Spec PyProof.Rows
structure KitC (K : PySem.W.Frag) (C : Addr) : Prop where
  hc : (PySem.W.clsIn K C).isSome = true
  hg : PySem.W.findIn K (.ref C) "__getattribute__" = some (some (.builtin "BaseException.__getattribute__"))
  hk : PySem.W.findIn K (.ref C) "__getattr__" = some none
  hs : PySem.W.subIn K (.ref C) (.type "BaseException") = some true
  ha : PySem.W.findIn K (.ref C) "__class__" = some (some (.builtin "object.__class__"))
  hn : PySem.W.specialIn K (.builtin "object.__class__") "__get__" = some (some (.builtin "getset_descriptor.__get__"))
  ht : PySem.W.takesIn K (.builtin "object.__class__") = some true
  hm : PySem.W.mroIn K C (.type "object") = some true
def kitEB (K : PySem.W.Frag) (C : Addr) : Bool := (PySem.W.clsIn K C).isSome && (decide (PySem.W.findIn K (.ref C) "__getattribute__" = some (some (.builtin "BaseException.__getattribute__"))) && (decide (PySem.W.findIn K (.ref C) "__getattr__" = some none) && (decide (PySem.W.subIn K (.ref C) (.type "BaseException") = some true) &&
  (decide (PySem.W.findIn K (.ref C) "__class__" = some (some (.builtin "object.__class__"))) && (decide (PySem.W.specialIn K (.builtin "object.__class__") "__get__" = some (some (.builtin "getset_descriptor.__get__"))) && (decide (PySem.W.takesIn K (.builtin "object.__class__") = some true) && decide (PySem.W.mroIn K C (.type "object") = some true)))))))
theorem kitEB_ok {K : PySem.W.Frag} {C : Addr} (h : kitEB K C = true) : KitC K C := by
  obtain ⟨h1, h⟩ := Bool.and_eq_true_iff.mp h
  obtain ⟨h2, h⟩ := Bool.and_eq_true_iff.mp h
  obtain ⟨h3, h⟩ := Bool.and_eq_true_iff.mp h
  obtain ⟨h4, h⟩ := Bool.and_eq_true_iff.mp h
  obtain ⟨h5, h⟩ := Bool.and_eq_true_iff.mp h
  obtain ⟨h6, h⟩ := Bool.and_eq_true_iff.mp h
  obtain ⟨h7, h8⟩ := Bool.and_eq_true_iff.mp h
  exact ⟨h1, of_decide_eq_true h2, of_decide_eq_true h3, of_decide_eq_true h4, of_decide_eq_true h5, of_decide_eq_true h6, of_decide_eq_true h7, of_decide_eq_true h8⟩
def oexB (K : PySem.W.Frag) (C : Addr) : Bool := (match K.lookup C with
  | some ⟨.type "type", _, .cls cd, sl⟩ => (match cd.mro, sl.toList with
    | .ref C' :: bm, [_, _, _, _, some (.builtin n), _] => C' == C && n == "ValueError.__new__" && !cd.hasDel && cd.hasDict && PySem.HandSPX.refsVE bm
    | _, _ => false)
  | _ => false) && (decide (PySem.W.findIn K (.ref C) "__setattr__" = some (some (.builtin "object.__setattr__"))) && (decide (PySem.W.subIn K (.ref C) (.type "BaseException") = some true) && (decide (PySem.W.typeIn K (.ref C) = some (.type "type")) && PySem.W.keepIn K (.ref C))))
theorem oexB_ok {K : PySem.W.Frag} {C : Addr} (h : oexB K C = true) : OexC K C := by
  obtain ⟨q, h⟩ := Bool.and_eq_true_iff.mp h
  obtain ⟨h2, h⟩ := Bool.and_eq_true_iff.mp h
  obtain ⟨h3, h⟩ := Bool.and_eq_true_iff.mp h
  obtain ⟨h4, h5⟩ := Bool.and_eq_true_iff.mp h
  refine ⟨?_, of_decide_eq_true h2, of_decide_eq_true h3, of_decide_eq_true h4, h5⟩
  split at q
  · rename_i dd cd sl ho
    split at q
    · rename_i C' bm k0 k1 k2 k3 n k5 hm hs
      simp only [Bool.and_eq_true, beq_iff_eq, Bool.not_eq_true'] at q
      obtain ⟨⟨⟨⟨rfl, rfl⟩, hdel⟩, hdic⟩, ht⟩ := q
      obtain ⟨nm, bs, mro, ns, qn, hd, sn, sub, ab, col, del⟩ := cd
      dsimp only at hm hdel hdic
      subst hm hdel hdic
      have hsl : sl = #[k0, k1, k2, k3, some (.builtin "ValueError.__new__"), k5] := by
        obtain ⟨l⟩ := sl
        simp only at hs
        rw [hs]
      subst hsl
      exact ⟨nm, qn, ns, bs, bm, sn, sub, ab, col, dd, k0, k1, k2, k3, k5, ho, ht⟩
    · cases q
  · cases q
section
variable {X : Cx}
end
end L2

namespace Mw
open PySem L2
open Evl (Ex)
open He (ga ma)
/-! ### errors as data -/
/-- what an error bears -/
inductive Pay where
  | int (i : Int)
  | tup (l : List Int)
  | str (s : PySem.Str)
  | rows (m : List (List Int))
structure Er where
  cls : PySem.Str
  pay : Pay
def Pay.toTup : Pay → Option (List Int)
  | .tup i => some i
  | _ => none
def Pay.toStr : Pay → Option PySem.Str
  | .str i => some i
  | _ => none
def rPay (K : PySem.W.Frag) : Rp Pay := ⟨fun H v p => match p with
  | .int i => rInt.r H v i
  | .tup l => (rTup K rInt).r H v l
  | .str s => rStr.r H v s
  | .rows m => (rLst (rLst rInt)).r H v m, fun {_ _ _ p} e h => match p, h with
  | .int _, h => rInt.up e h
  | .tup _, h => (rTup K rInt).up e h
  | .str _, h => rStr.up e h
  | .rows _, h => (rLst (rLst rInt)).up e h⟩
/-- whether errors of the class c belong to the class d -/
def subE (c d : PySem.Str) : Bool := decide (c = d) || decide (d = "PostError")
/-- the address of the one __init__ -/
def eiA (K : PySem.W.Frag) : Addr := ma K (ga K "PostError") "__init__"
structure ErrF (K : PySem.W.Frag) (mg : PySem.Str → Option Value) (L : List PySem.Str) : Prop where
  glo : ∀ c ∈ L, mg c = some (.ref (ga K c))
  oex : ∀ c ∈ L, OexC K (ga K c)
  xf : ∀ c ∈ L, XfC K (ga K c)
  kit : ∀ c ∈ L, KitC K (ga K c)
  noV : ∀ c ∈ L, PySem.W.findIn K (.ref (ga K c)) "value" = some none
  ini : ∀ c ∈ L, PySem.W.findIn K (.ref (ga K c)) "__init__" = some (some (.ref (eiA K)))
  fnI : PySem.W.typeIn K (.ref (eiA K)) = some (.type "function")
  exm : ∀ c ∈ L, ∀ d ∈ L, PySem.W.exmOne K (.ref (ga K c)) (.ref (ga K d)) = some (subE c d)
  kio : ∀ c ∈ L, ∀ d ∈ L, PySem.W.kitOne K (.ref (ga K c)) (.ref (ga K d)) = some (subE c d)
  kiV : ∀ c ∈ L, PySem.W.kitOne K (.ref (ga K c)) (.type "ValueError") = some true
def errB (L : List PySem.Str) : Hm.Fc := fun K => (L.all fun c => He.eqO (PySem.W.nsIn K mainGlobals c) (some (some (.ref (ga K c)))) && (oexB K (ga K c) && (xfB K (ga K c) && (kitEB K (ga K c) && (decide (PySem.W.findIn K (.ref (ga K c)) "value" = some none) && (decide (PySem.W.findIn K (.ref (ga K c)) "__init__" = some (some (.ref (eiA K)))) &&
  (decide (PySem.W.kitOne K (.ref (ga K c)) (.type "ValueError") = some true) && (L.all fun d => decide (PySem.W.exmOne K (.ref (ga K c)) (.ref (ga K d)) = some (subE c d)) && decide (PySem.W.kitOne K (.ref (ga K c)) (.ref (ga K d)) = some (subE c d)))))))))) && decide (PySem.W.typeIn K (.ref (eiA K)) = some (.type "function"))
theorem errB_ok {K : PySem.W.Frag} {h : Heap} {mg : PySem.Str → Option Value} {L : List PySem.Str} (X : K.In h) (G : h.Ns mainGlobals mg) (b : errB L K = true) : ErrF K mg L := by
  obtain ⟨b1, b2⟩ := Bool.and_eq_true_iff.mp b
  have b1 := List.all_eq_true.mp b1
  have go : ∀ c ∈ L, mg c = some (.ref (ga K c)) ∧ OexC K (ga K c) ∧ XfC K (ga K c) ∧ KitC K (ga K c) ∧ PySem.W.findIn K (.ref (ga K c)) "value" = some none ∧ PySem.W.findIn K (.ref (ga K c)) "__init__" = some (some (.ref (eiA K))) ∧ PySem.W.kitOne K (.ref (ga K c)) (.type "ValueError") = some true ∧
      ∀ d ∈ L, PySem.W.exmOne K (.ref (ga K c)) (.ref (ga K d)) = some (subE c d) ∧ PySem.W.kitOne K (.ref (ga K c)) (.ref (ga K d)) = some (subE c d) := fun c hc => by
    have z := b1 c hc
    obtain ⟨z1, z⟩ := Bool.and_eq_true_iff.mp z
    obtain ⟨z2, z⟩ := Bool.and_eq_true_iff.mp z
    obtain ⟨z3, z⟩ := Bool.and_eq_true_iff.mp z
    obtain ⟨z4, z⟩ := Bool.and_eq_true_iff.mp z
    obtain ⟨z5, z⟩ := Bool.and_eq_true_iff.mp z
    obtain ⟨z6, z⟩ := Bool.and_eq_true_iff.mp z
    obtain ⟨z7, z8⟩ := Bool.and_eq_true_iff.mp z
    refine ⟨PySem.W.mg_of X G (He.eqO_ok z1), oexB_ok z2, xfB_ok z3, kitEB_ok z4, of_decide_eq_true z5, of_decide_eq_true z6, of_decide_eq_true z7, fun d hd => ?_⟩
    have y := List.all_eq_true.mp z8 d hd
    obtain ⟨y1, y2⟩ := Bool.and_eq_true_iff.mp y
    exact ⟨of_decide_eq_true y1, of_decide_eq_true y2⟩
  exact ⟨fun c hc => (go c hc).1, fun c hc => (go c hc).2.1, fun c hc => (go c hc).2.2.1, fun c hc => (go c hc).2.2.2.1, fun c hc => (go c hc).2.2.2.2.1, fun c hc => (go c hc).2.2.2.2.2.1, of_decide_eq_true b2,
    fun c hc d hd => ((go c hc).2.2.2.2.2.2.2 d hd).1, fun c hc d hd => ((go c hc).2.2.2.2.2.2.2 d hd).2, fun c hc => (go c hc).2.2.2.2.2.2.1⟩
/-- an error in flight -/
def rEr (K : PySem.W.Frag) (L : List PySem.Str) (F : Hp) (cls : Value) (d : Option Addr) (er : Er) : Prop := er.cls ∈ L ∧ ∃ dd fs pv, cls = .ref (ga K er.cls) ∧ d = some dd ∧ F dd = some (.xd fs) ∧ fs.lookup ("value" : PySem.Str) = some pv ∧ (rPay K).r F pv er.pay
theorem rEr.up {K : PySem.W.Frag} {L : List PySem.Str} {F F' : Hp} {cls : Value} {d : Option Addr} {er : Er} (e : Ex F F') (h : rEr K L F cls d er) : rEr K L F' cls d er := by
  obtain ⟨h0, dd, fs, pv, h1, h2, h3, h4, h5⟩ := h
  exact ⟨h0, dd, fs, pv, h1, h2, e _ _ h3, h4, (rPay K).up e h5⟩
/-- an error that was caught -/
def rExc (K : PySem.W.Frag) (L : List PySem.Str) : Rp Er := ⟨fun F v er => er.cls ∈ L ∧ ∃ a dd fs pv, v = .ref a ∧ F a = some (exT a (.ref (ga K er.cls)) (some dd)) ∧ F dd = some (.xd fs) ∧ fs.lookup ("value" : PySem.Str) = some pv ∧ (rPay K).r F pv er.pay,
  fun {_ _ _ _} e ⟨h0, a, dd, fs, pv, h1, h2, h3, h4, h5⟩ => ⟨h0, a, dd, fs, pv, h1, e _ _ h2, e _ _ h3, h4, (rPay K).up e h5⟩⟩
section
variable {α β γ : Type} {ra : Rp α} {rb : Rp β} {rc : Rp γ} {σ : L2.St} {F H : Hp} {cs : Cs} {ta tb te : TE} {K : PySem.W.Frag} {L : List PySem.Str} {mg : PySem.Str → Option Value} {c : Act}
theorem nn_exc : NN (rExc K L) := fun F v a r e => by
  obtain ⟨_, _, _, _, _, rfl, _⟩ := r
  cases e
theorem em_val {m : Option Er} (E : ErrF K mg L) (h : EM (rExc K L) te σ F cs m) : EM (rPay K) (tXfT K "value" te) σ F cs (m.map (·.pay)) := fun d q c F1 H e k Q hQ => by
  cases m with
  | none => cases q
  | some er =>
    cases q
    refine h er rfl c F1 H e k _ fun v F2 H2 e2 k2 r2 => ?_
    obtain ⟨h0, a, dd, fs, pv, rfl, h2, h3, h4, h5⟩ := r2
    exact ⟨a, _, dd, fs, pv, rfl, k2.ex _ _ h2, E.xf _ h0, E.noV _ h0, k2.ex _ _ h3, h4, hQ pv F2 H2 e2 k2 h5⟩
theorem em_payT {m : Option Pay} (h : EM (rPay K) te σ F cs m) : EM (rTup K rInt) te σ F cs (m.bind Pay.toTup) := fun d q c F1 H e k Q hQ => by
  obtain ⟨p, q1, q2⟩ := bind_some q
  refine h p q1 c F1 H e k Q fun v F2 H2 e2 k2 r2 => hQ v F2 H2 e2 k2 ?_
  cases p <;> cases q2
  exact r2
theorem em_payS {m : Option Pay} (h : EM (rPay K) te σ F cs m) : EM rStr te σ F cs (m.bind Pay.toStr) := fun d q c F1 H e k Q hQ => by
  obtain ⟨p, q1, q2⟩ := bind_some q
  refine h p q1 c F1 H e k Q fun v F2 H2 e2 k2 r2 => hQ v F2 H2 e2 k2 ?_
  cases p <;> cases q2
  exact r2
end
end Mw
/-! ### calls that may raise, at the slots as they are -/
namespace L2
open PySem PySem.Spec PyProof.Rows
section
variable {X : Cx} {CX : CXT} {k n : Nat} {f C : Addr} {fd : FuncData} {ps ks : List Str} {sp : Sp} {E : St → XK} {x m : Str} {p pos apos : Pos} {e o : Expr} {es : List Expr} {kws : List Keyword} {ta : TE} {t tk : TA} {g : List Value → List Value → List Value} {gV : List V → List V → List V}
end
end L2

namespace Mw
open PySem L2
open Evl (Ex)
open He (ga ma)
/-! ### argument lists of any kinds -/
structure Gp (δ : Type) where
  r : Hp → List V → δ → Prop
  n : Nat
  up : ∀ {H H' : Hp} {vs : List V} {a : δ}, Ex H H' → r H vs a → r H' vs a
  len : ∀ {H : Hp} {vs : List V} {a : δ}, r H vs a → vs.length = n
def gpN : Gp Unit := ⟨fun _ vs _ => vs = [], 0, fun _ h => h, fun h => by subst h; rfl⟩
def gpC {α δ : Type} (ra : Rp α) (g : Gp δ) : Gp (α × δ) := ⟨fun H vs d => ∃ v ws, vs = v :: ws ∧ ra.r H v d.1 ∧ g.r H ws d.2, g.n + 1,
  fun e ⟨v, ws, h1, h2, h3⟩ => ⟨v, ws, h1, ra.up e h2, g.up e h3⟩, fun ⟨v, ws, h1, h2, h3⟩ => by subst h1; rw [List.length_cons, g.len h3]⟩
def EAG {δ : Type} (g : Gp δ) (ta : TA) (σ : L2.St) (F : Hp) (cs : Cs) (m : Option δ) : Prop := ∀ d, m = some d → ∀ c F1 H, Ex F F1 → Cov c F1 cs H → ∀ Q : List V → Hp → Prop, (∀ vs F2 H2, Ex F1 F2 → Cov c F2 cs H2 → g.r F2 vs d → Q vs H2) → ta σ H Q
/-! ### what may raise -/
def okG {α : Type} : Except Er α → Option α
  | .ok a => some a
  | .error _ => none
def EMX {α : Type} (K : PySem.W.Frag) (L : List PySem.Str) (W : WX) (ra : Rp α) (te : TE) (σ : L2.St) (F : Hp) (cs : Cs) (m : Option (Except Er α)) : Prop := ∀ d, m = some d → ∀ c F1 H, Ex F F1 → Cov c F1 cs H → ∀ Q : VK,
  (∀ x, d = .ok x → ∀ v F2 H2, Ex F1 F2 → Cov c F2 cs H2 → ra.r F2 v x → Q v H2) → (∀ er, d = .error er → ∀ cls dd F2 H2, Ex F1 F2 → Cov c F2 cs H2 → rEr K L F2 cls dd er → W cls dd σ H2) → te σ H Q
def mkX {γ ρ : Type} (fin : γ → Option ρ) (r : Option (Except Er (Unit × γ))) : Option (Except Er ρ) := r.bind fun r => match r with
  | .error er => some (.error er)
  | .ok x => (fin x.2).map .ok
/-- a promise of a def that may raise -/
def Xsp {δ ρ : Type} (K : PySem.W.Frag) (L : List PySem.Str) (g : Gp δ) (rr : Rp ρ) (m : δ → Option (Except Er ρ)) : Sp := fun vs H Q E => ∃ (F : Hp) (a : δ) (d : Except Er ρ), Ex F H ∧ g.r F vs a ∧ m a = some d ∧
  (∀ x, d = .ok x → ∀ v F2 H2, Cov ⟨H, F, []⟩ F2 [] H2 → rr.r F2 v x → Q v H2) ∧ (∀ er, d = .error er → ∀ cls dd F2 H2, Cov ⟨H, F, []⟩ F2 [] H2 → rEr K L F2 cls dd er → E cls dd H2)
theorem Xsp_len {δ ρ : Type} {K : PySem.W.Frag} {L : List PySem.Str} {g : Gp δ} {rr : Rp ρ} {m : δ → Option (Except Er ρ)} {vs : List V} {H : Hp} {Q : VK} {E : XK} (h : Xsp K L g rr m vs H Q E) : vs.length = g.n := by
  obtain ⟨_, _, _, _, h, _⟩ := h
  exact g.len h
/-- .. of an __init__ that may raise; its first argument is the object that is made -/
def Ysp {δ ρ γ : Type} (K : PySem.W.Frag) (L : List PySem.Str) (cell : γ → Cp) (g : Gp δ) (rr : Rp ρ) (m : γ → δ → Option (Except Er (ρ × γ))) : Sp := fun vs H Q E => ∃ (F : Hp) (p : Addr) (ws : List V) (s : γ) (a : δ) (d : Except Er (ρ × γ)), vs = .ref p :: ws ∧ Cov ⟨H, F, [p]⟩ F [(p, cell s)] H ∧ g.r F ws a ∧ m s a = some d ∧
  (∀ x, d = .ok x → ∀ v F2 H2, Cov ⟨H, F, [p]⟩ F2 [(p, cell x.2)] H2 → rr.r F2 v x.1 → Q v H2) ∧ (∀ er, d = .error er → ∀ cls dd F2 H2, Cov ⟨H, F, [p]⟩ F2 [] H2 → rEr K L F2 cls dd er → E cls dd H2)
theorem Ysp_len {δ ρ γ : Type} {K : PySem.W.Frag} {L : List PySem.Str} {cell : γ → Cp} {g : Gp δ} {rr : Rp ρ} {m : γ → δ → Option (Except Er (ρ × γ))} {vs : List V} {H : Hp} {Q : VK} {E : XK} (h : Ysp K L cell g rr m vs H Q E) : vs.length = g.n + 1 := by
  obtain ⟨_, _, _, _, _, _, rfl, _, h, _⟩ := h
  rw [List.length_cons, g.len h]
structure CalX (P : Program) (w : World) (K : PySem.W.Frag) (mg : PySem.Str → Option Value) (base : Heap) (k : Nat) (x : PySem.Str) (ps : List PySem.Str) (sp : Sp) (X : FuncData → Prop) : Prop where
  ex : ∃ f fd, FnOk P w K mg base (L2.CX P w) k f fd ps sp ∧ mg x = some (.ref f) ∧ PySem.W.keepIn K (.ref f) = true ∧ Binds K fd ps [] ∧ X fd
structure CalMX (P : Program) (w : World) (K : PySem.W.Frag) (mg : PySem.Str → Option Value) (base : Heap) (k : Nat) (C : Addr) (m : PySem.Str) (ps : List PySem.Str) (sp : Sp) (X : FuncData → Prop) : Prop where
  ex : ∃ f fd, FnOk P w K mg base (L2.CX P w) k f fd ps sp ∧ Meth K C m f ∧ Binds K fd ps [] ∧ X fd
structure CalIX (P : Program) (w : World) (K : PySem.W.Frag) (mg : PySem.Str → Option Value) (base : Heap) (k : Nat) (C : Addr) (ps : List PySem.Str) (sp : Sp) (X : FuncData → Prop) : Prop where
  ex : ∃ f fd, FnOk P w K mg base (L2.CX P w) k f fd ps sp ∧ L2.Mk K C f ∧ Binds K fd ps [] ∧ X fd
/-- the errors' own __init__ -/
def spEI (K : PySem.W.Frag) (L : List PySem.Str) : Sp := fun vs H Q _ => ∃ (a : Addr) (c : PySem.Str) (y : V), vs = [.ref a, y] ∧ c ∈ L ∧ H a = some (exo a (ga K c) none) ∧ ∀ dx, H dx = none → dx ≠ a → Q .non (upd (upd H dx (exd dx [("value", y)])) a (exo a (ga K c) (some dx)))
theorem spEI_len {K : PySem.W.Frag} {L : List PySem.Str} {vs : List V} {H : Hp} {Q : VK} {E : XK} (h : spEI K L vs H Q E) : vs.length = 2 := by
  obtain ⟨_, _, _, rfl, _⟩ := h
  rfl
structure CalE (P : Program) (w : World) (K : PySem.W.Frag) (mg : PySem.Str → Option Value) (base : Heap) (L : List PySem.Str) : Prop where
  ex : ∃ fd, FnOk P w K mg base CX0 1 (eiA K) fd ["self", "value"] (spEI K L) ∧ Binds K fd ["self", "value"] []
section
variable {α β γ δ ρ : Type} {ra : Rp α} {rb : Rp β} {rc : Rp γ} {rr : Rp ρ} {g : Gp δ} {σ : L2.St} {F H : Hp} {cs : Cs} {ta : TA} {tb te : TE} {K : PySem.W.Frag} {L : List PySem.Str} {mg : PySem.Str → Option Value} {c : Act} {W : WX} {E : XK}
theorem ei_body {D : Ends} {vs : List V} {Q : VK} {L : List PySem.Str} (Er_ : ErrF K mg L) (hD : ∀ σ H, Q .non H → D.nx σ H) (h : spEI K L vs H Q E) : tOst K "value" (tVar 0) (tVar 1) D (start ["self", "value"] vs) H := by
  obtain ⟨a, c, y, rfl, hc, ea, hq⟩ := h
  exact ⟨y, rfl, .ref a, rfl, a, _, rfl, Er_.oex c hc, Er_.noV c hc, .inl ⟨ea, fun dx n ne => hD _ _ (hq dx n ne)⟩⟩
theorem eag_nil : EAG gpN tNil σ F cs (some ()) := fun d q c F1 H e k Q hQ => by
  exact hQ [] F1 H (Evl.Ex.refl _) k rfl
theorem eag_cons {m : Option α} {n : Option δ} (h : EM ra te σ F cs m) (hr : EAG g ta σ F cs n) : EAG (gpC ra g) (tCons te ta) σ F cs (m.bind fun a => n.bind fun b => some (a, b)) := fun d q c F1 H e k Q hQ => by
  obtain ⟨a, q1, q2⟩ := bind_some q
  obtain ⟨b, q3, q4⟩ := bind_some q2
  cases q4
  exact h a q1 c F1 H e k _ fun v F2 H2 e2 k2 r2 => hr b q3 c F2 H2 (e.trans e2) k2 _ fun vs F3 H3 e3 k3 r3 => hQ (v :: vs) F3 H3 (e2.trans e3) k3 ⟨v, vs, rfl, ra.up e3 r2, r3⟩
theorem ex_eq {m m' : Option (Except Er α)} (h : EMX K L W ra te σ F cs m) (e : m = m') : EMX K L W ra te σ F cs m' := e ▸ h
/-- f(e, ..) -/
theorem ex_call {m : δ → Option (Except Er ρ)} {ma : Option δ} (h : EAG g ta σ F cs ma) : EMX K L W rr (tCallS (Xsp K L g rr m) (WE W) ta) σ F cs (ma.bind m) := fun d q c F0 H0 e0 k0 Q hQ hE => by
  obtain ⟨a, q1, q2⟩ := bind_some q
  refine h a q1 c F0 H0 e0 k0 _ fun vs F1 H1 e1 k1 x1 => ?_
  exact ⟨F1, a, d, k1.ex, x1, q2, fun x ex v F9 H9 k9 r9 => hQ x ex v F9 H9 (e1.trans k9.fz) (k1.call0 k9) r9, fun er ee cls dd F9 H9 k9 r9 => hE er ee cls dd F9 H9 (e1.trans k9.fz) (k1.call0 k9) r9⟩
/-- .. where it does not raise -/
theorem em_Xcall {m : δ → Option (Except Er ρ)} {ma : Option δ} (h : EAG g ta σ F cs ma) : EM rr (tCall (Xsp K L g rr m) [] E0 ta) σ F cs ((ma.bind m).bind okG) := fun d q c F0 H0 e0 k0 Q hQ => by
  obtain ⟨y, q0, q9⟩ := bind_some q
  obtain ⟨a, q1, q2⟩ := bind_some q0
  refine h a q1 c F0 H0 e0 k0 _ fun vs F1 H1 e1 k1 x1 => ?_
  cases y with
  | error _ => cases q9
  | ok y =>
    cases q9
    refine ⟨F1, a, _, k1.ex, by rw [List.append_nil]; exact x1, q2, fun x ex v F9 H9 k9 r9 => ?_, fun er ee => by cases ee⟩
    cases ex
    exact hQ v F9 H9 (e1.trans k9.fz) (k1.call0 k9) r9
/-- what stands behind the making of an object: cell p's content st, done -/
structure Mkd (C : Addr) {γ : Type} (cell : γ → Cp) (s0 : γ) (rr : Rp ρ) (fin : γ → Option ρ) : Prop where
  new : ∀ F dx, (cell s0).p F (.ins C dx [])
  done : ∀ F st y (p : Addr) o, (cell st).p F o → fin st = some y → F p = none → rr.r (upd F p o) (.ref p) y
theorem em_Xmake {C : Addr} {cell : γ → Cp} {s0 : γ} {fin : γ → Option ρ} {m : γ → δ → Option (Except Er (Unit × γ))} {ma : Option δ} (M : Mkd C cell s0 rr fin) (h : EAG g ta σ F cs ma) :
    EM rr (tMake C (Ysp K L cell g rNon m) [] E0 ta) σ F cs ((ma.bind fun a => mkX fin (m s0 a)).bind okG) := fun d q c F0 H0 e0 k0 Q hQ => by
  obtain ⟨r, q, q4⟩ := bind_some q
  obtain ⟨a, q1, q⟩ := bind_some q
  unfold mkX at q
  obtain ⟨y, q2, q⟩ := bind_some q
  obtain ⟨st, ey, q3⟩ : ∃ st, y = .ok st ∧ fin st.2 = some d := by
    cases y with
    | error _ => cases q; cases q4
    | ok y =>
      refine ⟨y, rfl, ?_⟩
      have q : (fin y.2).map Except.ok = some r := q
      cases z : fin y.2 with
      | none => rw [z] at q; cases q
      | some u => rw [z] at q; cases q; cases q4; rfl
  subst ey
  refine h a q1 c F0 H0 e0 k0 _ fun vs F1 H1 e1 k1 x1 => ?_
  intro x dx hx hdx hne
  have f9 := k1.fnone hdx
  have k8 := k1.lay (o := .own x) hdx
  have hx3 : upd H1 dx (.own x) x = none := by rw [upd_ne (fun z => hne z.symm)]; exact hx
  have k9 := k8.own0 (o := .ins C dx []) (x := cell s0) hx3 (M.new _ dx)
  have g3 := Ex.new (o := HO.own x) f9
  refine ⟨_, x, vs, s0, a, .ok st, by rw [List.append_nil], (k9.keepN 1).base, g.up g3 x1, q2, fun st2 est v F9 H9 kx r9 => ⟨r9, ?_⟩, fun er ee => by cases ee⟩
  cases est
  have k5 := k9.call1 kx
  obtain ⟨f1, _, o, g4, g5⟩ := k5.head
  have hn : c.H0 x = none := k1.dom x hx
  have k6 := k5.freeze g4 hn
  exact hQ (.ref x) _ H9 (((e1.trans g3).trans kx.fz).trans (Ex.new f1)) k6 (M.done _ _ _ _ _ g5 q3 f1)
/-! statements -/
variable {D : Ends} {tz : TS} {d : Except Er α} {m : Option (Except Er α)}
theorem a_setX {i : Nat} (h : EMX K L W ra te σ F cs m) (hm : m = some d) (k : Cov c F cs H) (ne : ∀ er, d = .error er → ∀ cls dd F2 H2, Ex F F2 → Cov c F2 cs H2 → rEr K L F2 cls dd er → W cls dd σ H2)
    (n : ∀ x, d = .ok x → ∀ v F2 H2, Ex F F2 → Cov c F2 cs H2 → ra.r F2 v x → D.nx (σ.set i (some v)) H2) : tAsg te (gName i) D σ H := h d hm c F H (Evl.Ex.refl _) k _ (fun x ex v F2 H2 e2 k2 r2 => n x ex v F2 H2 e2 k2 r2) ne
theorem a_dropX (h : EMX K L W ra te σ F cs m) (hm : m = some d) (k : Cov c F cs H) (ne : ∀ er, d = .error er → ∀ cls dd F2 H2, Ex F F2 → Cov c F2 cs H2 → rEr K L F2 cls dd er → W cls dd σ H2)
    (n : ∀ x, d = .ok x → ∀ F2 H2, Ex F F2 → Cov c F2 cs H2 → D.nx σ H2) : tDrop te D σ H := h d hm c F H (Evl.Ex.refl _) k _ (fun x ex v F2 H2 e2 k2 r2 => n x ex F2 H2 e2 k2) ne
theorem a_retX (h : EMX K L W ra te σ F cs m) (hm : m = some d) (k : Cov c F cs H) (ne : ∀ er, d = .error er → ∀ cls dd F2 H2, Ex F F2 → Cov c F2 cs H2 → rEr K L F2 cls dd er → W cls dd σ H2)
    (n : ∀ x, d = .ok x → ∀ v F2 H2, Ex F F2 → Cov c F2 cs H2 → ra.r F2 v x → D.rt v H2) : tRet te D σ H := h d hm c F H (Evl.Ex.refl _) k _ n ne
/-- raise C(e) -/
theorem a_raise {C : PySem.Str} {d : α} {m : Option α} {pay : α → Pay} (Er_ : ErrF K mg L) (hC : C ∈ L) (hp : ∀ F v x, ra.r F v x → (rPay K).r F v (pay x)) (h : EM ra te σ F cs m) (hm : m = some d) (k : Cov c F cs H)
    (ne : ∀ cls dd F2 H2, Ex F F2 → Cov c F2 cs H2 → rEr K L F2 cls dd ⟨C, pay d⟩ → W cls dd σ H2) : tMkO (ga K C) (spEI K L) [] (tCons te tNil) σ H fun cls dd H' => W cls dd σ H' := by
  refine h d hm c F H (Evl.Ex.refl _) k _ fun v F1 H1 e1 k1 x1 => ?_
  show (_ : List V).length ≤ 1000 ∧ _
  refine ⟨by show 1 ≤ 1000; decide, fun a ha => ⟨a, C, v, rfl, hC, upd_same, fun dx hdx nex => ⟨rfl, dx, [("value", v)], upd_same, ?_, ?_, ?_⟩⟩⟩
  · rw [upd_ne nex, upd_same]
  · have z := hdx
    rw [upd_ne nex] at z
    exact z
  · have hd1 : H1 dx = none := by
      have z := hdx
      rw [upd_ne nex] at z
      exact z
    have e : upd (del (upd (upd (upd H1 a (exo a (ga K C) none)) dx (exd dx [("value", v)])) a (exo a (ga K C) (some dx))) a) dx (.xd [("value", v)]) = upd H1 dx (.xd [("value", v)]) := by
      funext b
      by_cases hb : b = dx
      · subst hb; rw [upd_same, upd_same]
      · rw [upd_ne hb, upd_ne hb]
        by_cases hba : b = a
        · subst hba; rw [del_same, ha]
        · rw [del_ne hba, upd_ne hba, upd_ne hb, upd_ne hba]
    rw [e]
    have f1 := k1.fnone hd1
    have g1 := Ex.new (o := HO.xd [("value", v)]) f1
    exact ne _ _ _ _ (e1.trans g1) (k1.lay (o := HO.xd [("value", v)]) hd1) ⟨hC, dx, _, v, rfl, rfl, upd_same, rfl, (rPay K).up g1 (hp _ _ _ x1)⟩
end
end Mw

namespace Mw
open PySem L2
open Evl (Ex)
open He (ga ma)
section
variable {α0 α1 α2 α3 α4 α5 ρ : Type} {r0 : Rp α0} {r1 : Rp α1} {r2 : Rp α2} {r3 : Rp α3} {C : Addr} {n0 n1 n2 n3 : PySem.Str}
theorem mkd_O2 : Mkd C (cO2 C n0 n1 r0 r1) (none, none) (rO2 C n0 n1 r0 r1) finO2 := ⟨fun F dx => ⟨dx, [], rfl, rfl⟩, fun F st y p o h hf fp => by
  obtain ⟨_ | a, _ | b⟩ := st
  · cases hf
  · cases hf
  · cases hf
  cases hf
  obtain ⟨dy, vs, rfl, w0, w1, hv, y0, y1⟩ := h
  subst hv
  have e := Ex.new (o := HO.ins C dy [(n0, w0), (n1, w1)]) fp
  exact ⟨p, dy, w0, w1, rfl, upd_same, r0.up e y0, r1.up e y1⟩⟩
theorem nn_obj {ra : Rp ρ} (h : ObjP C ra) : NN ra := fun F v a r e => by
  obtain ⟨p, _, _, rfl, _⟩ := h F v a r
  cases e
theorem gx2 {f : α0 → α1 → Option ρ} {m0 : Option α0} {m1 : Option α1} : ((m0.bind fun a => (m1.bind fun a => (some ()).bind fun b => some (a, b)).bind fun b => some (a, b)).bind fun d => f d.1 d.2.1) = o2 f m0 m1 := by
  cases m0 with
  | none => rfl
  | some a0 =>
  cases m1 with
  | none => rfl
  | some a1 =>
  rfl
end
section
variable {α β γ δ ρ : Type} {ra : Rp α} {rb : Rp β} {σ : L2.St} {F H : Hp} {cs : Cs} {te : TE} {K : PySem.W.Frag} {L : List PySem.Str} {W : WX}
theorem py_int : ∀ (F : Hp) v x, rInt.r F v x → (rPay K).r F v (.int x) := fun _ _ _ r => r
theorem py_tup : ∀ (F : Hp) v x, (rTup K rInt).r F v x → (rPay K).r F v (.tup x) := fun _ _ _ r => r
theorem py_str : ∀ (F : Hp) v x, rStr.r F v x → (rPay K).r F v (.str x) := fun _ _ _ r => r
end
end Mw
namespace L2
open PySem PySem.Spec PyProof.Rows
end L2

namespace Mw
open PySem L2
open Evl (Ex)
open He (ga ma)
section
variable {α β γ δ ρ : Type} {ra : Rp α} {rb : Rp β} {rr : Rp ρ} {g : Gp δ} {σ : L2.St} {F H : Hp} {cs : Cs} {ta : TA} {te : TE} {K : PySem.W.Frag} {L : List PySem.Str} {W : WX} {c : Act}
/-- the caught exception is tracked, frozen -/
theorem Cov.caught {er : Er} {a dd : Addr} {fs : List (PySem.Str × V)} {pv : V} (k : Cov c F cs H) (ha : H a = none) (h0 : er.cls ∈ L) (h1 : F dd = some (.xd fs)) (h2 : fs.lookup ("value" : PySem.Str) = some pv) (h3 : (rPay K).r F pv er.pay) :
    ∃ F2, Ex F F2 ∧ Cov c F2 cs (upd H a (exT a (.ref (ga K er.cls)) (some dd))) ∧ (rExc K L).r F2 (.ref a) er := by
  have e := Ex.new (o := exT a (.ref (ga K er.cls)) (some dd)) (k.fnone ha)
  exact ⟨_, e, k.lay ha, h0, a, dd, fs, pv, rfl, upd_same, e _ _ h1, h2, (rPay K).up e h3⟩
end
end Mw

namespace Mw
open PySem L2
open Evl (Ex)
end Mw
namespace L2
open PySem PySem.Spec PyProof.Rows
section
variable {X : Cx} {CX : CXT} {k n : Nat} {f C : Addr} {fd : FuncData} {ps ks : List Str} {sp : Sp} {E : St → XK} {x : Str} {p pos : Pos} {e : Expr} {es : List Expr} {kws : List Keyword} {t tk : TA} {g : List Value → List Value → List Value} {gV : List V → List V → List V}
end
end L2
namespace Mw
open PySem L2
open Evl (Ex)
section
variable {α β γ δ ρ : Type} {ra : Rp α} {rr : Rp ρ} {g : Gp δ} {σ : L2.St} {F H : Hp} {cs : Cs} {tk : TA} {K : PySem.W.Frag} {L : List PySem.Str} {W : WX}
end
end Mw

set_option maxHeartbeats 2000000
/-! tuples of four, five, six (printed by tups.py) -/
namespace Mw
open PySem L2
open Evl (Ex)
section
variable {α0 α1 α2 α3 δ : Type} {r0 : Rp α0} {r1 : Rp α1} {r2 : Rp α2} {r3 : Rp α3} {σ : L2.St} {F H : Hp} {cs : Cs} {K : PySem.W.Frag} {te t0 t1 t2 t3 : TE} {tz : TS} {D : Ends} {c : Act}
end
section
variable {α0 α1 α2 α3 α4 δ : Type} {r0 : Rp α0} {r1 : Rp α1} {r2 : Rp α2} {r3 : Rp α3} {r4 : Rp α4} {σ : L2.St} {F H : Hp} {cs : Cs} {K : PySem.W.Frag} {te t0 t1 t2 t3 t4 : TE} {tz : TS} {D : Ends} {c : Act}
end
section
variable {α0 α1 α2 α3 α4 α5 δ : Type} {r0 : Rp α0} {r1 : Rp α1} {r2 : Rp α2} {r3 : Rp α3} {r4 : Rp α4} {r5 : Rp α5} {σ : L2.St} {F H : Hp} {cs : Cs} {K : PySem.W.Frag} {te t0 t1 t2 t3 t4 t5 : TE} {tz : TS} {D : Ends} {c : Act}
end
end Mw

set_option maxHeartbeats 2000000
/-! a cell lent to an expression; insert, reverse, pop -/
namespace Mw
open PySem L2
open Evl (Ex)
section
variable {α β γ : Type} {ra : Rp α} {rc : Rp γ} {σ : L2.St} {F H : Hp} {cs : Cs} {K : PySem.W.Frag} {te ti : TE} {t : TT} {tz : TS} {D : Ends} {c : Act} {d : α} {m : Option α}
theorem Rs.drop1 : ∀ {l : List V} {l' : List α}, Rs ra F l l' → ∀ n, Rs ra F (l.drop n) (l'.drop n)
  | _, _, .nil, n => by simp; exact .nil
  | _, _, .cons h t, 0 => .cons h t
  | _, _, .cons h t, n + 1 => Rs.drop1 t n
end
end Mw

set_option maxHeartbeats 2000000
/-! Mu: repr of integers. -/
namespace Mw
open PySem L2
open Evl (Ex)
section
variable {K : PySem.W.Frag}
end
end Mw

set_option maxHeartbeats 2000000
/-! Mg: defs that are run where no repr is under way; repr of tuples and lists. -/
namespace Mw
open PySem L2 PySem.Spec PyProof.Rows
open Evl (Ex)
/-! ### what such a def promises -/
structure FnG (P : Program) (w : World) (K : PySem.W.Frag) (mg : PySem.Str → Option Value) (base : Heap) (CX : CXT) (k : Nat) (f : Addr) (fd : FuncData) (ps : List PySem.Str) (sp : Sp) : Prop where
  len : ∀ vs H Q E, sp vs H Q E → vs.length = ps.length
  run : ∀ (A : Around) (outer : List Env) (s : Shared) (H : Hp) (args : Args) (us : List Value) (vs : List V) (Q : VK) (E : XK), A.guards = some [] → Room k A → Env0 P w K mg base A outer s H → BindsTo s fd args (ps.zip us) → Vals vs us → sp vs H Q E →
    codeAny (model P w) A (.call (.ref f) args) (CR CX outer P w H s Q E) s
structure CalG (P : Program) (w : World) (K : PySem.W.Frag) (mg : PySem.Str → Option Value) (base : Heap) (k : Nat) (x : PySem.Str) (ps : List PySem.Str) (sp : Sp) (X : FuncData → Prop) : Prop where
  ex : ∃ f fd, FnG P w K mg base CX0 k f fd ps sp ∧ mg x = some (.ref f) ∧ PySem.W.keepIn K (.ref f) = true ∧ Binds K fd ps [] ∧ X fd
section
variable {P : Program} {w : World} {K : PySem.W.Frag} {mg : PySem.Str → Option Value} {base : Heap} {CX : CXT} {k : Nat} {f : Addr} {fd : FuncData} {ps : List PySem.Str} {sp : Sp}
end
section
variable {X : Cx} {CX : CXT} {k : Nat} {f : Addr} {fd : FuncData} {ps : List PySem.Str} {sp : Sp} {dvs : List V} {ds : List Value} {E : XK} {x : PySem.Str} {p pos : Pos} {e : Expr} {es : List Expr} {ta : TE} {t : TA}
end
/-! ### the head -/
section
variable {P : Program} {w : World} {K : PySem.W.Frag} {mg mb : PySem.Str → Option Value} {CX : CXT} {k : Nat} {fa a : Addr} {fd : FuncData} {x : PySem.Str} {sp : Sp} {s₁ : Shared} {vs : List Value} {ns : List Int}
end
/-! ### repr of integers, strings, tuples and lists -/
section
variable {X : Cx} {k : Nat}
end
section
variable {K : PySem.W.Frag} {α β : Type} {ra : Rp α} {rb : Rp β} {d : α → PyData} {db : β → PyData}
end
/-! what is shown -/
/-! ### a value of any kind -/
section
variable {K : PySem.W.Frag} {L : List PySem.Str} {W : WX} {α : Type} {ra : Rp α} {te : TE} {σ : L2.St} {F : Hp} {cs : Cs}
end
end Mw

set_option maxHeartbeats 2000000
/-! Mb: own classes: isinstance, ==, the two-place operators. -/
namespace Mw
open PySem L2 PySem.Spec PyProof.Rows
open Evl (Ex)
/-- what isinstance and the operators ask of a class -/
structure InsC (K : PySem.W.Frag) (C : Addr) : Prop where
  cl : Cls K C
  ha : PySem.W.findIn K (.ref C) "__class__" = some (some (.builtin "object.__class__"))
  hn : PySem.W.specialIn K (.builtin "object.__class__") "__get__" = some (some (.builtin "getset_descriptor.__get__"))
  htk : PySem.W.takesIn K (.builtin "object.__class__") = some true
  hm : PySem.W.mroIn K C (.type "object") = some true
  one : PySem.W.kitOne K (.ref C) (.ref C) = some true
  sf : PySem.W.selfFirst K C = true
section
variable {X : Cx} {CX : CXT} {k : Nat} {C g : Addr} {fd : FuncData} {ps : List PySem.Str} {sp : Sp} {dvs : List V} {ds : List Value} {E : XK}
def rEqO (C : Addr) (sp : Sp) (dvs : List V) (E : XK) : R2 := fun x y H Q => ∃ a b dx dy fs gs, x = V.ref a ∧ y = V.ref b ∧ H a = some (.ins C dx fs) ∧ H b = some (.ins C dy gs) ∧ sp (.ref a :: .ref b :: dvs) H (BlQ Q) E
def rBinO (C : Addr) (sp : Sp) (dvs : List V) (E : XK) : R2 := fun x y H Q => ∃ a b dx dy fs gs, x = V.ref a ∧ y = V.ref b ∧ H a = some (.ins C dx fs) ∧ H b = some (.ins C dy gs) ∧ sp (.ref a :: .ref b :: dvs) H Q E
theorem back {pins : List (Addr × Obj)} {σ : L2.St} {Q : VK} {u : Value} {s : Shared} (h : EP X pins σ Q u s) : PySem.W.CmpBack (EP X pins σ Q) u s := by
  obtain ⟨v, H', I, r, q⟩ := h
  have z : u ≠ .notImplemented := fun e => by
    subst e
    cases v <;> first | (cases (show Value.notImplemented = _ from r)) | (obtain ⟨t, e⟩ := r; cases e)
  unfold PySem.W.CmpBack
  cases u <;> first | exact absurd rfl z | exact ⟨v, H', I, r, q⟩
theorem op_eqO (dn : DefOf X.K C "__eq__" g) (F : FnOk X.prog X.w X.K X.mg X.base CX k g fd ps sp) (hr : Room k X.A) (hb : Binds X.K fd ps ds) (hd : Vals dvs ds) (hx : Passes CX X E) : OpR X (compareOp .Eq) (rEqO C sp dvs E) := by
  intro pins s σ H x y v u Q I rx ry h
  obtain ⟨a, b, dx, dy, fs, gs, rfl, rfl, ea, eb, h⟩ := h
  obtain rfl : v = Value.ref a := rx
  obtain rfl : u = Value.ref b := ry
  obtain ⟨mA, O, _, _, _, _⟩ := ins_get I.hok ea
  obtain ⟨od, J, _⟩ := O.look
  obtain ⟨mB, O2, _, _, _, _⟩ := ins_get I.hok eb
  obtain ⟨od2, J2, _⟩ := O2.look
  obtain ⟨m, Fm⟩ := I.fr
  refine PySem.W.cmp_ofEq (PySem.W.cmp_K (op := .Eq) (tb := .ref C) hr.units0 Fm I.ok.mod.kin J J2.type (by simp [PySem.W.notFirst]) dn.at_ dn.fn (wpAny_mono (run_fn F hr hb hd hx I (.cons (show RelV (V.ref a) (Value.ref a) from rfl) (.cons (show RelV (V.ref b) (Value.ref b) from rfl) .nil)) h) (fun r s' hq => ?_) fun _ _ z => z))
  refine back ?_
  obtain ⟨v', H', I', rv, b, rfl, q⟩ := hq
  exact ⟨_, H', I', rv, q⟩
theorem op_binO {op : Operator} {nm : PySem.Str} (en : PySem.dunder op.info.2 = nm) (ic : InsC X.K C) (dn : DefOf X.K C nm g) (F : FnOk X.prog X.w X.K X.mg X.base CX k g fd ps sp) (hr : Room k X.A) (hb : Binds X.K fd ps ds) (hd : Vals dvs ds) (hx : Passes CX X E) : OpR X (binaryOp op) (rBinO C sp dvs E) := by
  subst en
  intro pins s σ H x y v u Q I rx ry h
  obtain ⟨a, b, dx, dy, fs, gs, rfl, rfl, ea, eb, h⟩ := h
  obtain rfl : v = Value.ref a := rx
  obtain rfl : u = Value.ref b := ry
  obtain ⟨mA, O, _, _, _, _⟩ := ins_get I.hok ea
  obtain ⟨od, J, _⟩ := O.look
  obtain ⟨mB, O2, _, _, _, _⟩ := ins_get I.hok eb
  obtain ⟨od2, J2, _⟩ := O2.look
  obtain ⟨m, Fm⟩ := I.fr
  refine PySem.W.binop_K Fm I.ok.mod.kin J J2.type ic.sf dn.at_ dn.fn (wpAny_mono (run_fn F hr hb hd hx I (.cons (show RelV (V.ref a) (Value.ref a) from rfl) (.cons (show RelV (V.ref b) (Value.ref b) from rfl) .nil)) h) (fun r s' hq => back hq) fun _ _ z => z)
end
section
variable {ω α : Type} {ro rr : Rp ω} {ra : Rp α} {C : Addr} {E : XK} {K : PySem.W.Frag} {σ : L2.St} {F : Hp} {cs : Cs} {te : TE}
theorem vo_eqO {g : ω → ω → Option Bool} (ho : ObjP C ro) : VO (rEqO C (Psp2 ro ro rBool g) [] E) ro ro rBool g := fun c F cs H x y a b d k r1 r2 q Q hQ => by
  obtain ⟨p, dx, fs, rfl, g1⟩ := ho _ _ _ r1
  obtain ⟨p2, dy, gs, rfl, g2⟩ := ho _ _ _ r2
  refine ⟨p, p2, dx, dy, fs, gs, rfl, rfl, k.ex _ _ g1, k.ex _ _ g2, ?_⟩
  exact ⟨F, .ref p, .ref p2, a, b, d, rfl, k.ex, r1, r2, q, fun v F9 H9 k9 r9 => ⟨d, r9, r9 ▸ hQ v F9 H9 k9.fz (k.call0 k9) r9⟩⟩
theorem vo_binO {g : ω → ω → Option α} (ho : ObjP C ro) : VO (rBinO C (Psp2 ro ro ra g) [] E) ro ro ra g := fun c F cs H x y a b d k r1 r2 q Q hQ => by
  obtain ⟨p, dx, fs, rfl, g1⟩ := ho _ _ _ r1
  obtain ⟨p2, dy, gs, rfl, g2⟩ := ho _ _ _ r2
  refine ⟨p, p2, dx, dy, fs, gs, rfl, rfl, k.ex _ _ g1, k.ex _ _ g2, ?_⟩
  exact ⟨F, .ref p, .ref p2, a, b, d, rfl, k.ex, r1, r2, q, fun v F9 H9 k9 r9 => hQ v F9 H9 k9.fz (k.call0 k9) r9⟩
/-- isinstance(e, C) of an object of C -/
theorem em_isO {m : Option ω} (ho : ObjP C ro) (ic : InsC K C) (h : EM ro te σ F cs m) : EM rBool (tCB (rIsi K) (tCons te (tCons (tC (.ref C)) tNil))) σ F cs (m.map fun _ => true) := fun d q c F1 H e k Q hQ => by
  cases m with
  | none => cases q
  | some a =>
    cases q
    refine h a rfl c F1 H e k _ fun v F2 H2 e2 k2 r2 => ?_
    obtain ⟨p, dx, fs, rfl, g1⟩ := ho _ _ _ r2
    exact ⟨.ref p, .ref C, .ref C, .ref C, true, rfl, .own C, .base (.ins (k2.ex _ _ g1) ic.cl ic.ha ic.hn ic.htk ic.hm), ic.one, hQ _ F2 H2 e2 k2 rfl⟩
end
/-! ### operators that may raise -/
section
variable {X : Cx} {CX : CXT} {k : Nat} {C g : Addr} {fd : FuncData} {ps : List PySem.Str} {sp : Sp} {E : L2.St → XK} {a b : Expr} {pos : Pos} {ta tb : TE}
def tBinS (C : Addr) (sp : Sp) (E : L2.St → XK) (ta tb : TE) : TE := fun σ H Q => ta σ H fun x H1 => tb σ H1 fun y H2 => rBinO C sp [] (E σ) x y H2 Q
theorem pe_binS {op : Operator} {nm : PySem.Str} (en : PySem.dunder op.info.2 = nm) (ic : InsC X.K C) (dn : DefOf X.K C nm g) (F : FnOk X.prog X.w X.K X.mg X.base CX k g fd ps sp) (hr : Room k X.A) (hb : Binds X.K fd ps []) (hx : ∀ σ, PassesAt CX X σ (E σ)) (ha : PE X a ta) (hb' : PE X b tb) : PE X (.BinOp a op b pos) (tBinS C sp E ta tb) := by
  subst en
  refine ⟨fun pins s σ H Q I h => ?_⟩
  refine wpAny_BinOp (binT (R := fun x y H2 => rBinO C sp [] (E σ) x y H2 Q) ha hb' I h fun v u s2 x y H2 I2 rx ry q => ?_)
  obtain ⟨a, b, dx, dy, fs, gs, rfl, rfl, ea, eb, h⟩ := q
  obtain rfl : v = Value.ref a := rx
  obtain rfl : u = Value.ref b := ry
  obtain ⟨mA, O, _, _, _, _⟩ := ins_get I2.hok ea
  obtain ⟨od, J, _⟩ := O.look
  obtain ⟨mB, O2, _, _, _, _⟩ := ins_get I2.hok eb
  obtain ⟨od2, J2, _⟩ := O2.look
  obtain ⟨m, Fm⟩ := I2.fr
  exact PySem.W.binop_K Fm I2.ok.mod.kin J J2.type ic.sf dn.at_ dn.fn (wpAny_mono (run_fnS F hr hb (hx σ) I2 (.cons (show RelV (V.ref a) (Value.ref a) from rfl) (.cons (show RelV (V.ref b) (Value.ref b) from rfl) .nil)) h) (fun r s' hq => back hq) fun _ _ z => z)
end
section
variable {K : PySem.W.Frag} {L : List PySem.Str} {W : WX} {ω ρ : Type} {ro : Rp ω} {rr : Rp ρ} {C : Addr} {ta tb : TE} {σ : L2.St} {F : Hp} {cs : Cs} {m : ω × ω × Unit → Option (Except Er ρ)} {m0 m1 : Option ω}
theorem ex_bin (ho : ObjP C ro) (h0 : EM ro ta σ F cs m0) (h1 : EM ro tb σ F cs m1) : EMX K L W rr (tBinS C (Xsp K L (gpC ro (gpC ro gpN)) rr m) (WE W) ta tb) σ F cs (m0.bind fun a => m1.bind fun b => m (a, b, ())) := fun d q c F0 H0 e0 k0 Q hQ hE => by
  obtain ⟨a, q1, q⟩ := bind_some q
  obtain ⟨b, q2, q3⟩ := bind_some q
  refine h0 a q1 c F0 H0 e0 k0 _ fun v F1 H1 e1 k1 x1 => h1 b q2 c F1 H1 (e0.trans e1) k1 _ fun u F2 H2 e2 k2 x2 => ?_
  have x1 := ro.up e2 x1
  obtain ⟨p, dx, fs, rfl, g1⟩ := ho _ _ _ x1
  obtain ⟨p2, dy, gs, rfl, g2⟩ := ho _ _ _ x2
  refine ⟨p, p2, dx, dy, fs, gs, rfl, rfl, k2.ex _ _ g1, k2.ex _ _ g2, ?_⟩
  exact ⟨F2, (a, b, ()), d, k2.ex, ⟨_, _, rfl, x1, _, _, rfl, x2, rfl⟩, q3, fun x ex v F9 H9 k9 r9 => hQ x ex v F9 H9 ((e1.trans e2).trans k9.fz) (k2.call0 k9) r9, fun er ee cls dd F9 H9 k9 r9 => hE er ee cls dd F9 H9 ((e1.trans e2).trans k9.fz) (k2.call0 k9) r9⟩
end
structure CalOX (P : Program) (w : World) (K : PySem.W.Frag) (mg : PySem.Str → Option Value) (base : Heap) (k : Nat) (C : Addr) (m : PySem.Str) (ps : List PySem.Str) (sp : Sp) (X : FuncData → Prop) : Prop where
  ex : ∃ f fd, FnOk P w K mg base (L2.CX P w) k f fd ps sp ∧ DefOf K C m f ∧ Binds K fd ps [] ∧ X fd
end Mw
namespace Hm
open PySem PySem.Spec PyProof.Rows L2 He Mw
def insB (x : Str) : Fc := fun K => eqO (PySem.W.findIn K (.ref (ga K x)) "__class__") (some (some (.builtin "object.__class__"))) && eqO (PySem.W.specialIn K (.builtin "object.__class__") "__get__") (some (some (.builtin "getset_descriptor.__get__"))) &&
  (PySem.W.takesIn K (.builtin "object.__class__") == some true) && (PySem.W.mroIn K (ga K x) (.type "object") == some true) && (PySem.W.kitOne K (.ref (ga K x)) (.ref (ga K x)) == some true) && PySem.W.selfFirst K (ga K x)
theorem insO_ok {K : PySem.W.Frag} {x : Str} (cl : Cls K (ga K x)) (c : insB x K = true) : InsC K (ga K x) := by
  obtain ⟨c, c6⟩ := ba c
  obtain ⟨c, c5⟩ := ba c
  obtain ⟨c, c4⟩ := ba c
  obtain ⟨c, c3⟩ := ba c
  obtain ⟨c1, c2⟩ := ba c
  exact ⟨cl, eqO_ok c1, eqO_ok c2, eq_of_beq c3, eq_of_beq c4, eq_of_beq c5, c6⟩
end Hm

set_option maxHeartbeats 2000000
/-! Mc: the keys of a dict as a list. -/
namespace Mw
open PySem L2 PySem.Spec PyProof.Rows
open Evl (Ex)
section
variable {c : Act} {F H : Hp} {cs : Cs} {b : Addr} {vs : List V} {K : PySem.W.Frag}
/-- a tuple of the heap, frozen from now on -/
theorem Cov.seeT (k : Cov c F cs H) (h : H b = some (.tup vs)) : ∃ F', Ex F F' ∧ Cov c F' cs H ∧ F' b = some (.tup vs) := by
  cases f : F b with
  | some o =>
    have := k.ex _ _ f
    rw [h] at this
    cases this
    exact ⟨F, Ex.refl F, k, f⟩
  | none =>
    refine ⟨upd F b (.tup vs), Ex.new f, ⟨fun a u e => ?_, k.fz.trans (Ex.new f), fun y hy => ?_, k.nd, k.keep, fun a u e => ?_, k.dom, k.pt⟩, upd_same⟩
    · by_cases q : a = b
      · subst q; rw [upd_same] at e; cases e; exact h
      · rw [upd_ne q] at e; exact k.ex _ _ e
    · obtain ⟨h1, h2, o, h3, h4⟩ := k.cell y hy
      have ne : y.1 ≠ b := fun z => by
        rw [z, h] at h3
        cases h3
        exact (y.2.nt h4).elim
      exact ⟨by rw [upd_ne ne]; exact h1, h2, o, h3, y.2.up (Ex.new f) h4⟩
    · by_cases q : a = b
      · subst q
        rw [upd_same] at e
        cases e
        cases z : c.H0 a with
        | none => exact .inr (.inl rfl)
        | some u =>
          by_cases hb : a ∈ c.ps
          · obtain ⟨w, z1, z2⟩ := k.pt a hb
            rw [h] at z1
            cases z1
            exact z2.elim
          · have := k.keep a u hb z
            rw [h] at this
            cases this
            exact .inr (.inr ⟨vs, rfl, rfl⟩)
      · rw [upd_ne q] at e
        exact k.nw a u e
theorem rs_key : ∀ {F : Hp} (k : List Int), Rs rInt F ((kI k).map kV) k
  | _, [] => .nil
  | _, _ :: k => .cons rfl (rs_key k)
variable {β : Type} {rb : Rp β}
theorem Cov.seeKeys {kvs : List (List L2.Key × V)} {bs : List Addr} (hk : IsKeys H kvs bs) : ∀ {F : Hp} {ds : List (List Int × β)}, Cov c F cs H → Rkv rb F kvs ds → ∃ F', Ex F F' ∧ Cov c F' cs H ∧ Rs (rTup K rInt) F' (bs.map V.ref) (ds.map fun d => d.1) := by
  unfold IsKeys at hk
  induction hk with
  | nil => intro F ds k r; cases r; exact ⟨F, Ex.refl F, k, .nil⟩
  | @cons p b ps bs hp t ih =>
    intro F ds k r
    cases r with
    | @cons _ d _ ds r rt =>
      rw [r.1] at hp
      obtain ⟨F1, e1, k1, f1⟩ := k.seeT hp
      obtain ⟨F2, e2, k2, r2⟩ := ih k1 (Rkv.up e1 rt)
      exact ⟨F2, e1.trans e2, k2, .cons ⟨b, _, rfl, e2 _ _ f1, rs_key d.1⟩ r2⟩
def rListD : List V → Hp → VK → Prop := fun xs H Q => ∃ d kvs, xs = [V.ref d] ∧ Rd H d (.dT kvs) ∧ ∀ p bs, H p = none → IsKeys H kvs bs → Q (.ref p) (upd H p (.lst (bs.map V.ref)))
theorem cr_listD {X : Cx} (hc : X.calm = true) : CallR X (.type "list") rListD := call_list_dT hc
theorem ef_listD {td : TE} {σ : L2.St} {md : Option (List (List Int × β))} (h : ED rb td σ F cs md) : EF (rTup K rInt) (tCB rListD (tCons td tNil)) σ F cs (md.map fun d => d.map fun x => x.1) := fun d q c F1 H e k Q hQ => by
  cases md with
  | none => cases q
  | some ds =>
    cases q
    refine h ds rfl c F1 H e k _ fun v F2 H2 e2 k2 r2 => ?_
    obtain ⟨p, kvs, rfl, h1, h2⟩ := r2.see k2
    refine ⟨p, kvs, rfl, .inl h1, fun l bs hl hk => ?_⟩
    obtain ⟨F3, e3, k3, r3⟩ := k2.seeKeys (K := K) hk h2
    exact hQ l F3 _ (e2.trans e3) (k3.own hl ⟨_, rfl, r3⟩) (k3.dom l hl)
end
/-! ### [e for x in l if t], the test changes a cell -/
def sMapT {α β γ : Type} (t : α → γ → Option (Bool × γ)) (f : α → γ → Option (β × γ)) : List α → γ → Option (List β × γ)
  | [], s => some ([], s)
  | a :: l, s => sC (t a s) fun b s => if b = true then sC (f a s) fun x s => sC (sMapT t f l s) fun r s => some (x :: r, s) else sMapT t f l s
def sLcT {α β γ : Type} (t : α → γ → Option (Bool × γ)) (f : α → γ → Option (β × γ)) (l : List α) (s : γ) : Option (List β × γ) := if l.length ≤ 16000000 then sMapT t f l s else none
section
variable {α β γ : Type} {ra : Rp α} {rb : Rp β} {σ : L2.St} {F H : Hp} {cs : γ → Cs} {K : PySem.W.Frag} {te : TE} {wi : TI} {g : TG} {tt : TT} {vs : List Nat}
theorem sMapT_drop {t : α → γ → Option (Bool × γ)} {f : α → γ → Option (β × γ)} {ds : List α} {i : Nat} {d : α} {s : γ} (h : ds[i]? = some d) :
    sMapT t f (ds.drop i) s = sC (t d s) fun b s => if b = true then sC (f d s) fun x s => sC (sMapT t f (ds.drop (i + 1)) s) fun r s => some (x :: r, s) else sMapT t f (ds.drop (i + 1)) s := by
  obtain ⟨h1, h2⟩ := List.getElem?_eq_some_iff.mp h
  rw [List.drop_eq_getElem_cons h1, h2] <;> rfl
theorem sf_lcT {s : γ} {m : Option (List α)} {t : α → γ → Option (Bool × γ)} {f : α → γ → Option (β × γ)} {S : α → Hp → L2.St → Prop} (hw : EI ra wi σ F (cs s) m) (hg : GT g ra K (wipe σ vs) S) (hs : ∀ d F σ2, S d F σ2 → wipe σ2 vs = wipe σ vs)
    (ht : ∀ d F1 σ2 s, Ex F F1 → S d F1 σ2 → ST tt σ2 F1 (cs s) (t d s) cs) (he : ∀ d F1 σ2 s, Ex F F1 → S d F1 σ2 → SM rb te σ2 F1 (cs s) (f d s) cs) (hps : ∀ s s2, (cs s).map (·.1) = (cs s2).map (·.1)) :
    SF rb (tLc wi g tt te vs) σ F (cs s) (m.bind fun l => sLcT t f l s) cs := fun r sE q c F1 H1 e1 k1 Q hQ => by
  obtain ⟨ds, q1, q2⟩ := bind_some q
  unfold sLcT at q2
  split at q2
  case isFalse => cases q2
  rename_i hlen
  refine hw ds q1 c F1 H1 e1 k1 _ fun J F2 H2 e2 k2 G => fun D hD => ?_
  have hD0 := k2.dom D hD
  refine ⟨fun i m H => m = ds.length - i ∧ i ≤ ds.length ∧ ∃ F' acc rest s', Ex F2 F' ∧ sMapT t f (ds.drop i) s' = some (rest, sE) ∧ r = acc ++ rest ∧ acc.length ≤ i ∧ Cov c F' (cs s' ++ [(D, cLst rb acc)]) H,
    ⟨ds.length, by simp, Nat.zero_le _, F2, [], r, s, Ex.refl _, q2, rfl, Nat.le_refl _, k2.own hD ⟨[], rfl, .nil⟩⟩, ?_⟩
  rintro i m H ⟨rfl, hi, F', acc, rest, s', e3, hr, eq, la, k3⟩
  by_cases hlt : i < ds.length
  · have hd : ds[i]? = some ds[i] := by simp [hlt]
    obtain ⟨g1, g2⟩ := G.go i _ hd c F' _ H e3 k3
    refine .inr ⟨g1, fun H => ∃ F' acc rest s', Ex F2 F' ∧ sMapT t f (ds.drop (i + 1)) s' = some (rest, sE) ∧ r = acc ++ rest ∧ acc.length ≤ i + 1 ∧ Cov c F' (cs s' ++ [(D, cLst rb acc)]) H, fun H' ⟨F', acc, rest, s', z⟩ => ⟨ds.length - (i + 1), by omega, rfl, hlt, F', acc, rest, s', z⟩, fun x H' y => ?_⟩
    obtain ⟨F4, e4, c4, r4⟩ := g2 x H' y
    have k4 := c4 c _ k3
    rw [sMapT_drop hd] at hr
    obtain ⟨b, s2, h1, hr⟩ := sC_some hr
    refine hg c F4 _ H' x _ k4 r4 _ fun σ2 z2 => ⟨hs _ _ _ z2, ?_⟩
    have kk : Cov c F4 (cs s') H' := by
      have z := k4.keepN (cs s').length
      rw [List.take_left] at z
      exact z
    have e04 : Ex F F4 := ((e1.trans e2).trans e3).trans e4
    refine ht _ F4 σ2 s' e04 z2 b s2 h1 _ F4 H' (Ex.refl _) kk.base _ fun F5 H5 e5 k5 => ?_
    have k5' : Cov c F5 (cs s2 ++ [(D, cLst rb acc)]) H5 := k4.back k5 (Cov.old_ps k5)
    cases b with
    | true =>
      rw [if_pos rfl] at hr
      obtain ⟨z, s3, h2, hr⟩ := sC_some hr
      obtain ⟨rr, s4, h3, hr⟩ := sC_some hr
      cases hr
      have kk5 : Cov c F5 (cs s2) H5 := by
        have z := k5'.keepN (cs s2).length
        rw [List.take_left] at z
        exact z
      show te σ2 H5 _
      refine he _ F4 σ2 s2 e04 z2 z s3 h2 _ F5 H5 e5 kk5.base _ fun v F6 H6 e6 k6 r6 => ?_
      have k6' : Cov c F6 (cs s3 ++ [(D, cLst rb acc)]) H6 := k5'.back k6 (Cov.old_ps k6)
      obtain ⟨f1, _, o, f3, ws, rfl, f4⟩ := k6'.cell (D, cLst rb acc) (List.mem_append_right _ List.mem_cons_self)
      refine ⟨ws, f3, sz_lt (by rw [f4.length]; omega), F6, acc ++ [z], rr, s3, ((e3.trans e4).trans e5).trans e6, h3, by rw [eq]; simp, by simp; omega, ?_⟩
      have k7 := k6'.set (cs s3).length (p := D) (x := cLst rb acc) (x' := cLst rb (acc ++ [z])) (o := .lst (ws ++ [v])) (by simp) ⟨ws ++ [v], rfl, f4.snoc r6⟩
      rw [List.set_append_right _ _ (Nat.le_refl _), Nat.sub_self] at k7
      exact k7
    | false =>
      rw [if_neg Bool.false_ne_true] at hr
      exact ⟨F5, acc, rest, s2, (e3.trans e4).trans e5, hr, eq, by omega, k5'⟩
  · have e : i = ds.length := by omega
    subst e
    rw [List.drop_length] at hr
    cases hr
    rw [List.append_nil] at eq
    subst eq
    exact .inl ⟨G.stop c F' _ H e3 k3, hQ D F' H (e2.trans e3) k3 hD0⟩
end
/-- data told otherwise -/
theorem em_mapR {α β : Type} {ra : Rp α} {rb : Rp β} {te : TE} {σ : L2.St} {F : Hp} {cs : Cs} {g : α → β} {m : Option α} (hp : ∀ F v x, ra.r F v x → rb.r F v (g x)) (h : EM ra te σ F cs m) : EM rb te σ F cs (m.map g) := fun d q c F1 H e k Q hQ => by
  cases m with
  | none => cases q
  | some a =>
    cases q
    exact h a rfl c F1 H e k Q fun v F2 H2 e2 k2 r2 => hQ v F2 H2 e2 k2 (hp _ _ _ r2)
end Mw

set_option maxHeartbeats 2000000
/-! Mt: sets of int tuples that are counted; dict comprehensions with tuple keys; setdefault, get. -/
namespace Mw
open PySem PySem.Spec PyProof.Rows L2
open Evl (Ex)
section
variable {P : Program} {w : World} {A : Around} {E : Value → Shared → Prop} {s : Shared} {a x : Addr} {L : List (Addr × List Int)} {k : List Int} {es : Array (Int × Value)} {ep : Nat} {t : SetTable}
end
section
variable {X : Cx} {pins : List (Addr × Obj)} {σ : L2.St} {H : Hp} {s : Shared} {E : Value → Shared → Prop} {D b : Addr} {L : List (Addr × List Int)} {k : List Int}
abbrev TupsAt (K : PySem.W.Frag) (H : Hp) (L : List (Addr × List Int)) : Prop := ∀ p ∈ L, SqT K H p.1 (p.2.map V.int)
/-! ### a comprehension with one for, whatever it fills -/
/-- what an accumulating step reads: from the state behind the test to the turn's end -/
abbrev Acc := L2.St → Hp → Addr → (Hp → Prop) → Prop
/-- an evaluation's step: at an environment, with what comes behind and at an error -/
abbrev AStep := Env → Addr → (Shared → Prop) → (Value → Shared → Prop) → Shared → Prop
/-- the form of the comprehension: how its loop goes, how it begins -/
structure AForm (P : Program) (w : World) (A : Around) (node : Expr) (tg iter : Expr) (ifs : List Expr) (mk : Sem Value) (raw : Obj) (step : AStep) : Prop where
  cl : clausesOf node = [⟨tg, iter, ifs, 0⟩]
  mk_ok : ∀ {s : Shared} {Q : Value → Shared → Prop} {E : Value → Shared → Prop}, Q (.ref s.heap.objs.size) { s with heap := s.heap.push raw } → wpAny (model P w) A mk Q E s
  loop : ∀ {it D : Addr} {env : Env} {R : Result → Shared → Prop} (Iv : Nat → Shared → Prop),
    (∀ n s, Iv n s → wpAny (model P w) A (pyNext (.ref it)) (fun r s1 => match r with
      | none => R (.ok .next) s1
      | some v => wpAny (model P w) A (letOwnedTupleGo tg (.ref it) v) (fun _ s2 => wpAny (model P w) A (assign tg env v) (fun _ s3 =>
          wpAny (model P w) A (forIn ifs true fun c r => if r = true then do let ok ← isTrue c env (eval c env); pure (ForInStep.yield ok) else pure (ForInStep.yield r)) (fun ok s4 =>
            if ok = true then step env D (fun s5 => ∃ m, m < n ∧ Iv m s5) (notedBy (model P w) A env fun e s' => R (.error e) s') s4 else ∃ m, m < n ∧ Iv m s4)
          (notedBy (model P w) A env fun e s' => R (.error e) s') s3) (notedBy (model P w) A env fun e s' => R (.error e) s') s2) (notedBy (model P w) A env fun e s' => R (.error e) s') s1)
      (notedBy (model P w) A env fun e s' => R (.error e) s') s) →
    ∀ n s, Iv n s → codeAny (model P w) A (.compLoop node 0 (.ref it) (.ref D) env) R s
  start : ∀ {it D : Addr} {env : Env} {R : Result → Shared → Prop} {s : Shared}, codeAny (model P w) A (.compLoop node 0 (.ref it) (.ref D) env) R s →
    wpAny (model P w) A (pyIter (.ref it)) (fun it' s' => codeAny (model P w) A (.compLoop node 0 it' (.ref D) env) R s') (notedBy (model P w) A env fun x s' => R (.error x) s') s →
    codeAny (model P w) A (.compStart node 0 (.ref it) (.ref D) env) R s
end
section
variable {X : Cx}
/-! ### len(set), set(list) -/
end
/-! ### data -/
def lim {α : Type} (B : Nat) (l : List α) : Option (List α) := if l.length ≤ B then some l else none
/-- the different ones, in the order in which they come first -/
def dd : List (List Int) → List (List Int)
  | [] => []
  | k :: l => k :: (dd l).filter fun j => !decide (j = k)
def dOf {β : Type} (l : List (List Int × β)) : List (List Int × β) := l.foldl (fun d kv => dPut d kv.1 kv.2) []
/-! ### what is filled step by step -/
section
variable {α β δ : Type} {ra : Rp α} {rb : Rp β} {σ : L2.St} {F H : Hp} {cs : Cs} {K : PySem.W.Frag} {te tk tv : TE} {wi : TI} {g : TG} {tt : TT} {vs : List Nat} {P : Program} {w : World} {ta : Acc}
def EC (cell : Addr → δ → Cp) (te : TE) (σ : L2.St) (F : Hp) (cs : Cs) (m : Option δ) : Prop := ∀ d, m = some d → ∀ c F1 H, Ex F F1 → Cov c F1 cs H → ∀ Q : VK, (∀ p F2 H2, Ex F1 F2 → Cov c F2 (cs ++ [(p, cell p d)]) H2 → c.H0 p = none → Q (.ref p) H2) → te σ H Q
/-! sets -/
def SetOk (F : Hp) (L : List (Addr × List Int)) (ks : List (List Int)) : Prop := (∀ p ∈ L, F p.1 = some (.tup (p.2.map V.int))) ∧ ∀ k, k ∈ L.map (·.2) ↔ k ∈ ks
theorem SetOk.up {F F' : Hp} {L : List (Addr × List Int)} {ks : List (List Int)} (e : Ex F F') (h : SetOk F L ks) : SetOk F' L ks := ⟨fun p hp => e _ _ (h.1 p hp), h.2⟩
def cSet (P : Program) (w : World) (D : Addr) (ks : List (List Int)) : Cp := ⟨fun F o => ∃ L, o = SetTO P w D L ∧ SetOk F L ks ∧ L.length ≤ ks.length, fun e ⟨L, h1, h2, h3⟩ => ⟨L, h1, h2.up e, h3⟩, fun ⟨_, h, _⟩ => by subst h; trivial⟩
def rSet (P : Program) (w : World) : Rp (List (List Int)) := ⟨fun F v ks => ∃ a L, v = .ref a ∧ F a = some (SetTO P w a L) ∧ SetOk F L ks, fun e ⟨a, L, h1, h2, h3⟩ => ⟨a, L, h1, e _ _ h2, h3.up e⟩⟩
theorem TupsAt.of {c : Act} {L : List (Addr × List Int)} {ks : List (List Int)} (h : SetOk F L ks) (e : Ex F H) : TupsAt K H L := fun p hp => ext_ e (h.1 p hp)
theorem EC.set {m : Option (List (List Int))} (h : EC (cSet P w) te σ F cs m) : EM (rSet P w) te σ F cs m := fun d q c F1 H e k Q hQ => by
  refine h d q c F1 H e k Q fun p F2 H2 e2 k2 n2 => ?_
  obtain ⟨f1, _, o, f3, L, rfl, f4, f5⟩ := k2.cell (p, cSet P w p d) (List.mem_append_right _ List.mem_cons_self)
  exact hQ (.ref p) _ H2 (e2.trans (Ex.new f1)) (k2.toHead.freeze f3 n2 |>.perm (by rw [List.append_nil])) ⟨p, L, rfl, upd_same, f4.up (Ex.new f1)⟩
end
/-! ### dicts by comprehension; get; setdefault -/
section
variable {α β δ : Type} {ra : Rp α} {rb : Rp β} {σ : L2.St} {F H : Hp} {cs : Cs} {K : PySem.W.Frag} {te tk tv td ty tx : TE} {wi : TI} {g : TG} {tt : TT} {vs : List Nat} {P : Program} {w : World} {ta : Acc}
theorem EC.dict {m : Option (List (List Int × β))} (h : EC (fun _ acc => cDic rb (dOf acc)) te σ F cs m) : EM (rDic rb) te σ F cs (m.map dOf) := fun d q c F1 H e k Q hQ => by
  cases m with
  | none => cases q
  | some d0 =>
    cases q
    refine h d0 rfl c F1 H e k Q fun p F2 H2 e2 k2 n2 => ?_
    obtain ⟨f1, _, o, f3, kvs, rfl, f4⟩ := k2.cell (p, cDic rb (dOf d0)) (List.mem_append_right _ List.mem_cons_self)
    exact hQ (.ref p) _ H2 (e2.trans (Ex.new f1)) (k2.toHead.freeze f3 n2 |>.perm (by rw [List.append_nil])) ⟨p, kvs, rfl, upd_same, Rkv.up (Ex.new f1) f4⟩
/-! dicts keyed by ints: by comprehension, asked by in -/
end
section
variable {X : Cx} {P : Program} {w : World} {K : PySem.W.Frag}
theorem un2 {k : Nat} {A : Around} (r : Room k A) : A.units + 2 < cLine := by have := r.un; omega
end
end Mw

set_option maxHeartbeats 2000000
/-! Ma (printed by fam2.py): the followed state holds several cells. -/
namespace Mw
open PySem PySem.Spec PyProof.Rows L2
open Evl (Ex)
section
variable {σ : L2.St} {F : Hp} {γ A : Type} {cs : γ → Cs} {s : γ} {get : γ → A} {put : γ → A → γ}
end
/-! ### xs.pop(i), xs.pop() -/
section
variable {β γ : Type} {rb : Rp β} {σ : L2.St} {F : Hp} {cs : γ → Cs} {s : γ} {get : γ → List β} {put : γ → List β → γ} {K : PySem.W.Frag} {te : TE}
theorem Rs.init : ∀ {F : Hp} {vs : List V} {ds : List β}, Rs rb F vs ds → Rs rb F vs.dropLast ds.dropLast
  | _, _, _, .nil => .nil
  | _, _, _, .cons h .nil => .nil
  | _, _, _, .cons h (.cons h2 t) => .cons h (Rs.init (.cons h2 t))
theorem Rs.at_ : ∀ {F : Hp} {vs : List V} {ds : List β} {k : Nat} {d : β}, Rs rb F vs ds → ds[k]? = some d → ∃ v, vs[k]? = some v ∧ rb.r F v d
  | _, _, _, _, _, .nil, h => by simp at h
  | _, _, _, 0, _, .cons r t, h => by simp at h; subst h; exact ⟨_, rfl, r⟩
  | _, _, _, k + 1, d, .cons r t, h => by
    simp at h
    obtain ⟨v, h1, h2⟩ := Rs.at_ t h
    exact ⟨v, by simpa using h1, h2⟩
end
/-! ### a, b = [..], [..]; a = b = e -/
section
variable {α β : Type} {ra : Rp α} {rb : Rp β} {σ : L2.St} {F H : Hp} {cs : Cs} {te ta tb : TE} {tz : TS} {c : Act} {D : Ends}
theorem EF.fr {ex : Cs} {m : Option (List α)} (h : EF ra te σ F cs m) : EF ra te σ F (cs ++ ex) m := fun d q c F1 H e k Q hQ => by
  have kk : Cov c F1 cs H := by
    have z := k.keepN cs.length
    rw [List.take_left] at z
    exact z
  refine h d q _ F1 H e kk.base Q fun p F2 H2 e2 k2 n2 => hQ p F2 H2 e2 ?_ (k.dom p n2)
  have z := k.back k2 (Cov.old_ps k2)
  refine z.perm ?_
  rw [List.append_assoc, List.append_assoc]
  exact List.Perm.append_left cs List.perm_append_comm
end
end Mw

set_option maxHeartbeats 2000000
/-! M1: a module's tuple of ints; a def that returns a tuple with a new list in it. -/
namespace Mw
open PySem PySem.Spec PyProof.Rows L2
open Evl (Ex)
section
variable (K : PySem.W.Frag)
end
section
variable {α β γ δ ρ τ : Type} {ra : Rp α} {rb : Rp β} {rr : Rp ρ} {rt : Rp τ} {σ : L2.St} {F H : Hp} {cs : Cs} {K : PySem.W.Frag} {te t1 t2 : TE} {tz : TS} {c : Act} {D : Ends}
/-! ### return (xs, e), xs a new list -/
end
end Mw
namespace Hm
open PySem PySem.Spec PyProof.Rows L2 He Mw
end Hm

set_option maxHeartbeats 2000000
/-! M2: slices with effects; isinstance of what may be None. -/
namespace Mw
open PySem PySem.Spec PyProof.Rows L2
open Evl (Ex)
section
variable {α γ : Type} {ra : Rp α} {σ : L2.St} {F : Hp} {cs : γ → Cs} {s : γ} {K : PySem.W.Frag} {te ta : TE} {tl th : TO}
end
/-! xs.index(y) -/
section
variable {α γ : Type} [DecidableEq α] [Sk α] {ra : Rp α} {σ : L2.St} {F : Hp} {cs : Cs} {K : PySem.W.Frag} {te tl : TE}
def idxDG (l : List α) (a : α) : Option Int := if Sk.ok a = true ∧ Sk.ok l = true then (l.findIdx? fun z => decide (z = a)).map (fun (j : Nat) => (j : Int)) else none
theorem mt_indexDK {X : Cx} (hK : X.K = K) (hu : X.A.units + 65 < cLine) : MtR X "list.index" (rIndexD K) := by
  subst hK
  exact mt_indexD hu
theorem em_indexD {ma : Option α} {ml : Option (List α)} (D : Dq K ra) (hd : D.dep ≤ 63) (hl : EL K ra tl σ F cs ml) (h : EM ra te σ F cs ma) : EM rInt (tBM K "list" (rIndexD K) tl (tCons te tNil)) σ F cs (o2 idxDG ml ma) := fun d q c F1 H e k Q hQ => by
  obtain ⟨b, a, q1, q2, q3⟩ := o2_some q
  refine hl b q1 c F1 H e k _ fun w F2 H2 e2 k2 r2 => ?_
  obtain ⟨p, vs, rfl, h1, h2⟩ := r2.see k2
  refine ⟨.inl ⟨rfl, _, h1⟩, h a q2 c F2 H2 (e.trans e2) k2 _ fun v F3 H3 e3 k3 r3 => ?_⟩
  obtain ⟨p', vs', ep, h3, h4⟩ := (r2.up e3).see k3
  cases ep
  unfold idxDG at q3
  split at q3
  case isFalse => cases q3
  rename_i g
  obtain ⟨j, hj, eq⟩ := Option.map_eq_some_iff.mp q3
  obtain ⟨hlt, hp, hn⟩ := List.findIdx?_eq_some_iff_getElem.mp hj
  refine ⟨p, v, D.enc a, b.map D.enc, j, D.enc (b[j]), rfl, rfl, .lst h3 (dpAll D (Rs.up k3.ex h4)), dp_ex k3.ex D r3, lsD D hd g.2, D.shaped (by omega) g.1, by simp [hlt], ?_, fun m z' hm hz => ?_, hQ _ F3 H3 (e2.trans e3) k3 (by rw [← eq]; rfl)⟩
  · rw [D.inj]
    exact hp
  · have hml : m < b.length := Nat.lt_trans hm hlt
    have e0 : z' = D.enc b[m] := by
      rw [List.getElem?_map, List.getElem?_eq_getElem hml] at hz
      exact (Option.some.inj hz).symm
    rw [e0, D.inj]
    have := hn m hm
    simpa using this
end
end Mw
namespace Mw
open PySem PySem.Spec PyProof.Rows L2
open Evl (Ex)
section
variable {α γ : Type} {ra : Rp α} {σ : L2.St} {F H : Hp} {cs : Cs} {wi : TI} {g : TG} {tb : TS} {D : Ends} {c : Act} {m : Option (List α)} {ds : List α}
end
end Mw


set_option maxHeartbeats 2000000
/-! Du: values of several kinds: data told as such (rDat), one of two kinds (rAlt). -/
namespace Mw
open PySem PySem.Spec PyProof.Rows L2
open Evl (Ex)
mutual
theorem dp_up {K : PySem.W.Frag} {H H' : Hp} (e : Ex H H') : ∀ (d : PyData) (v : V), Dp K H v d → Dp K H' v d
  | .none, _, h => by cases h; exact .non
  | .bool b, _, h => by cases h; exact .bl b
  | .int i, _, h => by cases h; exact .int i
  | .str x, _, h => by cases h; exact .str x
  | .list ds, _, h => by
    cases h with
    | lst hs ha => exact .lst (Evl.ex_l e hs) (dp_upA e ds _ ha)
  | .tuple ds, _, h => by
    cases h with
    | tup hs ha => exact .tup (Evl.ex_t e hs) (dp_upA e ds _ ha)
  | .dict _, _, h => by cases h
theorem dp_upA {K : PySem.W.Frag} {H H' : Hp} (e : Ex H H') : ∀ (ds : List PyData) (vs : List V), DpAll K H vs ds → DpAll K H' vs ds
  | [], _, h => by cases h; exact .nil
  | d :: ds, _, h => by
    cases h with
    | cons h1 h2 => exact .cons (dp_up e d _ h1) (dp_upA e ds _ h2)
end
/-- data of any kind -/
def rDat (K : PySem.W.Frag) : Rp PyData := ⟨fun H v d => Dp K H v d, fun e h => dp_up e _ _ h⟩
/-- one of two kinds -/
def rAlt {α β : Type} (ra : Rp α) (rb : Rp β) : Rp (α ⊕ β) := ⟨fun H v x => match x with
  | .inl a => ra.r H v a
  | .inr b => rb.r H v b, fun {_ _ _ x} e h => match x, h with
  | .inl _, h => ra.up e h
  | .inr _, h => rb.up e h⟩
def neU (a b : PyData) : Option Bool := if SeqAt.shaped a = true ∧ SeqAt.shaped b = true then some (!PyData.eqv a b) else none
section
variable {K : PySem.W.Frag} {α β : Type} {ra : Rp α} {rb : Rp β} {te : TE} {σ : L2.St} {F : Hp} {cs : Cs}
theorem to_dat [DecidableEq α] [Sk α] (D : Dq K ra) : ∀ (F : Hp) v x, ra.r F v x → (rDat K).r F v (D.enc x) := fun _ _ _ r => D.dp r
theorem vo_neU : VO (rNeD K) (rDat K) (rDat K) rBool neU := fun c F cs H v w a b d k r1 r2 q Q hQ => by
  unfold neU at q
  split at q
  · rename_i g
    cases q
    exact ⟨a, b, dp_up k.ex _ _ r1, dp_up k.ex _ _ r2, g.1, g.2, hQ _ F H (Evl.Ex.refl _) k rfl⟩
  · cases q
theorem em_inl {m : Option α} (h : EM ra te σ F cs m) : EM (rAlt ra rb) te σ F cs (m.map Sum.inl) := em_mapR (g := Sum.inl) (fun _ _ _ r => r) h
theorem em_inr {m : Option β} (h : EM rb te σ F cs m) : EM (rAlt ra rb) te σ F cs (m.map Sum.inr) := em_mapR (g := Sum.inr) (fun _ _ _ r => r) h
theorem em_toL {m : Option (α ⊕ β)} (h : EM (rAlt ra rb) te σ F cs m) : EM ra te σ F cs (m.bind Sum.getLeft?) := fun d q c F1 H e k Q hQ => by
  obtain ⟨x, q1, q2⟩ := bind_some q
  cases x with
  | inl a => cases q2; exact h _ q1 c F1 H e k Q fun v F2 H2 e2 k2 r2 => hQ v F2 H2 e2 k2 r2
  | inr b => cases q2
theorem em_toR {m : Option (α ⊕ β)} (h : EM (rAlt ra rb) te σ F cs m) : EM rb te σ F cs (m.bind Sum.getRight?) := fun d q c F1 H e k Q hQ => by
  obtain ⟨x, q1, q2⟩ := bind_some q
  cases x with
  | inr a => cases q2; exact h _ q1 c F1 H e k Q fun v F2 H2 e2 k2 r2 => hQ v F2 H2 e2 k2 r2
  | inl b => cases q2
theorem is_alt {u : Value} {f : α → Bool} {g : β → Bool} (hf : IsT K ra u f) (hg : IsT K rb u g) : IsT K (rAlt ra rb) u (Sum.elim f g) := fun F H v x e r => by
  cases x with
  | inl a => exact hf F H v a e r
  | inr b => exact hg F H v b e r
theorem ex_mapR {L : List PySem.Str} {W : WX} {g : α → β} {m : Option (Except Er α)} (hp : ∀ F v x, ra.r F v x → rb.r F v (g x)) (h : EMX K L W ra te σ F cs m) : EMX K L W rb te σ F cs (m.map fun r => r.map g) := fun d q c F1 H e k Q hQ hE => by
  cases m with
  | none => cases q
  | some y =>
    cases q
    refine h y rfl c F1 H e k Q (fun x ex v F2 H2 e2 k2 r2 => ?_) fun er ee cls dd F2 H2 e2 k2 r2 => ?_
    · subst ex
      exact hQ (g x) rfl v F2 H2 e2 k2 (hp _ _ _ r2)
    · subst ee
      exact hE er rfl cls dd F2 H2 e2 k2 r2
end
end Mw

set_option maxHeartbeats 2000000
/-! Dv: calls that may raise, with effects in their arguments; bits; cells read at an index that is drawn. -/
namespace Mw
open PySem PySem.Spec PyProof.Rows L2
open Evl (Ex)
/-! ### bits -/
instance (a b : Int) : Decidable (CPow a b) := by unfold CPow; infer_instance
/-! ### with effects -/
section
variable {α β γ δ ρ : Type} {ra : Rp α} {rb : Rp β} {rr : Rp ρ} {g : Gp δ} {σ : L2.St} {F H : Hp} {cs : γ → Cs} {s : γ} {ta : TA} {te tb : TE} {K : PySem.W.Frag} {L : List PySem.Str} {W : WX} {c : Act}
end
/-! ### pairs of what may raise -/
section
variable {α β : Type} {ra : Rp α} {rb : Rp β} {σ : L2.St} {F H : Hp} {cs : Cs} {ta tb te : TE} {K : PySem.W.Frag} {L : List PySem.Str} {W : WX} {c : Act} {D : Ends} {tz : TS}
end
/-! ### makings and methods, with effects in the arguments -/
section
variable {α β α1 α2 α3 γ ω ρ : Type} {ra : Rp α} {rb : Rp β} {r1 : Rp α1} {r2 : Rp α2} {r3 : Rp α3} {ro : Rp ω} {rr : Rp ρ} {σ : L2.St} {F : Hp} {cs : γ → Cs} {s : γ} {ta : TA} {te t1 : TE} {E : XK} {C : Addr} {n1 n2 mn : PySem.Str}
end
theorem rs_str {F : Hp} : ∀ {vs : List V} {l : List PySem.Str}, Rs rStr F vs l → vs = l.map V.str
  | _, _, .nil => rfl
  | _, _, .cons r t => by cases r; rw [List.map_cons, rs_str t]
/-! ### a word in a tuple of words -/
def notInSG (a : PySem.Str) (l : List PySem.Str) : Option Bool := some (!decide (a ∈ l))
theorem inV_str {a : PySem.Str} : ∀ {l : List PySem.Str}, inV (.str a) (l.map V.str) = decide (a ∈ l)
  | [] => rfl
  | b :: l => by
    have ih := inV_str (a := a) (l := l)
    unfold inV at ih ⊢
    rw [List.map_cons, List.any_cons, ih]
    have e : eqV (V.str b) (V.str a) = decide (a = b) := by
      show (b == a) = decide (a = b)
      by_cases h : a = b
      · subst h; simp
      · rw [decide_eq_false h]; simpa using fun e => h e.symm
    rw [e]
    by_cases h1 : a = b <;> by_cases h2 : a ∈ l <;> simp [h1, h2]
theorem flat_strs : ∀ l : List PySem.Str, (l.map V.str).all flatV = true
  | [] => rfl
  | a :: l => by rw [List.map_cons, List.all_cons, flat_strs l] <;> rfl
theorem vo_notInTS {K : PySem.W.Frag} : VO (rIn K true) rStr (rTup K rStr) rBool notInSG := fun c F cs H v w a b d k r1 r2 q Q hQ => by
  cases r1
  obtain ⟨p, vs, rfl, h1, h2⟩ := r2
  rw [rs_str h2] at h1
  cases q
  refine ⟨p, b.map V.str, rfl, .inr (ext_ k.ex h1), rfl, flat_strs b, ?_⟩
  exact hQ _ F H (Evl.Ex.refl _) k (by show V.bl (if true = true then _ else _) = _; rw [if_pos rfl, inV_str])
/-! ### the length of what a call returns that may raise -/
/-! ### isinstance of a value that may be an object of a class or data -/
structure KitD (K : PySem.W.Frag) (C : Addr) : Prop where
  no : ∀ T ∈ ["NoneType", "bool", "int", "str", "list", "tuple"], PySem.W.kitOne K (.type T) (.ref C) = some false
section
variable {α ω : Type} {ra : Rp α} {ro : Rp ω} {K : PySem.W.Frag} {C : Addr} {σ : L2.St} {F : Hp} {cs : Cs} {te : TE} {m : Option α}
theorem is_objC (ho : ObjP C ro) (ic : InsC K C) : IsT K ro (.ref C) fun _ => true := fun F H v a e r => by
  obtain ⟨p, dx, fs, rfl, g1⟩ := ho _ _ _ r
  exact ⟨.ref C, .base (.ins (e _ _ g1) ic.cl ic.ha ic.hn ic.htk ic.hm), ic.one⟩
theorem em_isC {b : α → Bool} (hb : IsT K ra (.ref C) b) (h : EM ra te σ F cs m) : EM rBool (tCB (rIsi K) (tCons te (tCons (tC (.ref C)) tNil))) σ F cs (m.map b) := fun d q c F1 H e k Q hQ => by
  cases m with
  | none => cases q
  | some a =>
    cases q
    refine h a rfl c F1 H e k _ fun v F2 H2 e2 k2 r2 => ?_
    obtain ⟨t, h1, h2⟩ := hb F2 H2 v a k2.ex r2
    exact ⟨v, .ref C, t, .ref C, b a, rfl, .own C, h1, h2, hQ _ F2 H2 e2 k2 rfl⟩
end
end Mw
namespace Hm
open PySem PySem.Spec PyProof.Rows L2 He Mw
def kitB (x : Str) : Fc := fun K => ["NoneType", "bool", "int", "str", "list", "tuple"].all fun T => PySem.W.kitOne K (.type T) (.ref (ga K x)) == some false
theorem kit_ok {K : PySem.W.Frag} {x : Str} (c : kitB x K = true) : KitD K (ga K x) := ⟨fun T hT => eq_of_beq (List.all_eq_true.mp c T hT)⟩
end Hm
namespace Mw
end Mw

set_option maxHeartbeats 2000000
/-! Dw: a list unpacked into two names. -/
namespace Mw
open PySem PySem.Spec PyProof.Rows L2
open Evl (Ex)
/-! ### a list unpacked into names -/
end Mw

set_option maxHeartbeats 2000000
/-! Dx: the least of a list of tuples of ints -/
namespace Mw
open PySem PySem.Spec PyProof.Rows L2 PySem.SeqAt
open Evl (Ex)
section
variable {prog : Program} {w : World} {A : Around} {E : Value → Shared → Prop} {s : Shared}
end
section
variable {α β : Type} {ra : Rp α} {rb : Rp β} {σ : L2.St} {F H : Hp} {cs : Cs} {ta tb : TE} {D : Ends} {c : Act} {tz : TS}
end
/-! sorted of ints -/
end Mw

set_option maxHeartbeats 2000000
/-! Dy: zip of a list and a tuple, targets of a pair whose first is a triple, lists as tests. -/
namespace Mw
open PySem PySem.Spec PyProof.Rows L2
open Evl (Ex)
/-! ### zip of a list and a tuple -/
section
variable {α β γ : Type} {ra : Rp α} {rb : Rp β} {rc : Rp γ} {σ : L2.St} {F H : Hp} {cs : Cs} {K : PySem.W.Frag} {ta tb : TE}
/-! ### a pair whose first is a triple, as a target -/
/-! ### a list as a test -/
end
end Mw

set_option maxHeartbeats 2000000
/-! Dz: the values of a dict whose keys are tuples: d.values() in list() and sorted(). -/
namespace Mw
open PySem PySem.Spec PyProof.Rows L2
open Evl (Ex)
/-! ### the machine: a values view of a dict with any keys -/
section
variable {prog : Program} {w : World} {A : Around} {E : Value → Shared → Prop} {s : Shared} {d v : Addr} {es : Array DictEntry} {ep : Nat} {o : Obj}
end
/-! ### readings -/
section
variable {X : Cx} {e : Expr} {td : TE} {apos cpos : Pos}
end
/-! ### expressions -/
section
variable {c : Act} {F H : Hp} {cs : Cs} {p : Addr} {o : HO}
end
section
variable {β : Type} {rb : Rp β} {σ : L2.St} {F : Hp} {cs : Cs} {td : TE} {md : Option (List (List Int × β))}
end
end Mw

set_option maxHeartbeats 2000000
/-! Ea: cells lent to an expression whose value stands on the heap; a list of cells (`[list(a), list(b)]`, changed at constant places). -/
namespace Mw
open PySem L2
open Evl (Ex)
/-! ### what holds no old list -/
def TupKeep (F F' : Hp) : Prop := ∀ a vs, F a = some (.tup vs) → F' a = some (.tup vs)
class TP {α : Type} (ra : Rp α) : Prop where
  t : ∀ {F F' : Hp} {v : V} {d : α}, TupKeep F F' → ra.r F v d → ra.r F' v d
section
variable {α β γ δ : Type} {ra : Rp α} {rb : Rp β} {rc : Rp γ} {K : PySem.W.Frag}
instance tp_int : TP rInt := ⟨fun _ h => h⟩
instance tp_bool : TP rBool := ⟨fun _ h => h⟩
instance tp_str : TP rStr := ⟨fun _ h => h⟩
instance tp_non : TP rNon := ⟨fun _ h => h⟩
instance tp_opt [ta : TP ra] : TP (rOpt ra) := ⟨fun {_ _ _ d} e h => match d, h with
  | none, h => h
  | some _, h => ⟨h.1, ta.t e h.2⟩⟩
theorem Rs.tp [ta : TP ra] {F F' : Hp} (e : TupKeep F F') : ∀ {vs : List V} {ds : List α}, Rs ra F vs ds → Rs ra F' vs ds
  | _, _, .nil => .nil
  | _, _, .cons h t => .cons (ta.t e h) (Rs.tp e t)
instance tp_tup [ta : TP ra] : TP (rTup K ra) := ⟨fun e ⟨a, vs, h1, h2, h3⟩ => ⟨a, vs, h1, e _ _ h2, h3.tp e⟩⟩
instance tp_p2 [ta : TP ra] [tb : TP rb] : TP (rP2 K ra rb) := ⟨fun e ⟨a, v1, v2, h1, h2, h3, h4⟩ => ⟨a, v1, v2, h1, e _ _ h2, ta.t e h3, tb.t e h4⟩⟩
instance tp_p3 [ta : TP ra] [tb : TP rb] [tc : TP rc] : TP (rP3 K ra rb rc) := ⟨fun e ⟨a, v1, v2, v3, h1, h2, h3, h4, h5⟩ => ⟨a, v1, v2, v3, h1, e _ _ h2, ta.t e h3, tb.t e h4, tc.t e h5⟩⟩
end
/-! ### behind a loan: the old lists go back -/
/-! ### loans -/
section
variable {α β γ : Type} {ra : Rp α} {rc : Rp γ} {σ : L2.St} {F H : Hp} {cs : Cs} {K : PySem.W.Frag} {te ti ta tb : TE} {t : TT} {tz : TS} {D : Ends} {c : Act} {d : α} {m : Option α} {P P2 : Hp → Prop}
/-! ### a list of cells is made -/
/-! ### and changed -/
def TO (te : TE) (σ : L2.St) (F : Hp) (cs : Cs) (p : Addr) : Prop := ∀ c F1 H, Ex F F1 → Cov c F1 cs H → ∀ Q : VK, (∀ F2 H2, Ex F1 F2 → Cov c F2 cs H2 → Q (.ref p) H2) → te σ H Q
variable {tr : TE} {j : Nat} {p : Addr} {ds ds' : List α}
end
end Mw
namespace Mw
end Mw
/-! a list and [None] -/
namespace Mw
open PySem L2
open Evl (Ex)
section
variable {α : Type} {ra : Rp α} {σ : L2.St} {F H : Hp} {cs : Cs} {K : PySem.W.Frag} {ta tb : TE}
end
end Mw
/-! a list of two lists of different kinds -/
namespace Mw
open PySem L2
open Evl (Ex)
section
variable {α β : Type} {ra : Rp α} {rb : Rp β} {σ : L2.St} {F H : Hp} {cs : Cs} {K : PySem.W.Frag} {te ta tb : TE} {tz : TS} {D : Ends} {c : Act} {m : Option (α × β)} {m1 : Option α} {m2 : Option β}
end
section
variable {α β : Type} {ra : Rp α} {rb : Rp β} {σ : L2.St} {F H : Hp} {cs : Cs} {K : PySem.W.Frag} {ta tb : TE} {tz : TS} {D : Ends} {c : Act} {m1 : Option (List α)} {m2 : Option (List β)} {d1 : List α} {d2 : List β}
end
end Mw
/-! xs * n, n changing the followed cell -/
namespace Mw
open PySem L2
open Evl (Ex)
end Mw

set_option maxHeartbeats 2000000
/-! Eb: results that are new: none of their lists stood before the call. -/
namespace Mw
open PySem L2
open Evl (Ex)
/-- what is new in F since H0, and the tuples -/
def onlyNew (H0 F : Hp) : Hp := fun b => match H0 b with
  | none => F b
  | some _ => match F b with
    | some (.tup vs) => some (.tup vs)
    | _ => none
theorem onlyNew_sub (H0 F : Hp) : Ex (onlyNew H0 F) F := fun b o h => by
  unfold onlyNew at h
  split at h
  · exact h
  · split at h
    · rename_i h9
      cases h
      exact h9
    · cases h
theorem onlyNew_new {H0 F : Hp} {b : Addr} (h : H0 b = none) : onlyNew H0 F b = F b := by unfold onlyNew; rw [h]
theorem onlyNew_tup {H0 F : Hp} {b : Addr} {vs : List V} (h : F b = some (.tup vs)) : onlyNew H0 F b = some (.tup vs) := by
  cases q : H0 b with
  | none => rw [onlyNew_new q, h]
  | some u => unfold onlyNew; rw [q, h]
theorem onlyNew_mono {H0 F F' : Hp} (e : Ex F F') : Ex (onlyNew H0 F) (onlyNew H0 F') := fun b o h => by
  cases q : H0 b with
  | none => rw [onlyNew_new q] at h ⊢; exact e _ _ h
  | some u =>
    unfold onlyNew at h
    rw [q] at h
    dsimp only at h
    split at h
    · rename_i h9
      cases h
      exact onlyNew_tup (e _ _ h9)
    · cases h
/-- the value's lists are new since H0 -/
def rNew {α : Type} (H0 : Hp) (ra : Rp α) : Rp α := ⟨fun F v d => ra.r (onlyNew H0 F) v d, fun e h => ra.up (onlyNew_mono e) h⟩
section
variable {α β γ δ ρ : Type} {ra : Rp α} {rb : Rp β} {rr : Rp ρ} {g : Gp δ} {σ : L2.St} {F H : Hp} {cs : Cs} {K : PySem.W.Frag} {te ta tb : TE} {tl : TA} {tz : TS} {D : Ends} {c : Act} {d : α} {m m' : Option α}
theorem nw {H0 : Hp} {v : V} (h : (rNew H0 ra).r F v d) : ra.r F v d := ra.up (onlyNew_sub _ _) h
/-! ### promises -/
/-! ### statements -/
end
end Mw

set_option maxHeartbeats 2000000
/-! Ec: comprehensions that walk a dict (keys: places), the dict a cell, locked meanwhile. -/
namespace Mw
open PySem L2
open Evl (Ex)
section
variable {α β : Type} {ra : Rp α} {rb : Rp β} {σ : L2.St} {F H : Hp} {cs : Cs} {K : PySem.W.Frag} {te ty : TE} {c : Act}
end
end Mw
namespace Mw
open PySem L2
section
variable {te : TE} {tz : TS} {D : Ends} {σ : L2.St} {H : Hp} {i : Nat}
end
end Mw
/-! list(range(n)), tuple(range(n)) -/
namespace Mw
open PySem L2
open Evl (Ex)
section
variable {σ : L2.St} {F : Hp} {cs : Cs} {K : PySem.W.Frag} {ta : TE} {m : Option Int}
end
end Mw
/-! x, y = [..], {} -/
namespace Mw
open PySem L2
open Evl (Ex)
section
variable {α β : Type} {ra : Rp α} {rb : Rp β} {σ : L2.St} {F H : Hp} {cs : Cs} {K : PySem.W.Frag} {ta : TE} {c : Act} {D : Ends} {tz : TS}
end
end Mw

set_option maxHeartbeats 2000000
/-! Ee: sorted() of a list that is made with effects. -/
namespace Mw
open PySem L2
open Evl (Ex)
section
variable {γ : Type} {σ : L2.St} {F : Hp} {cs : γ → Cs} {s : γ} {K : PySem.W.Frag} {te : TE}
end
end Mw

set_option maxHeartbeats 4000000
/-! Rt: tuple * int by any small number: once gives the tuple itself, less than once an empty one. -/
namespace L2
open PySem PySem.Spec PyProof.Rows
section
variable {X : Cx}
end
end L2
namespace Mw
open PySem L2
open Evl (Ex)
end Mw

set_option maxHeartbeats 2000000
/-! Sa: == and != of an own object with values of any kind. -/
namespace PySem.W
open PySem PySem.Spec PySem.Calls PyProof.Rows
section
variable {prog : Program} {w : World} {M : Model} {A : Around} {E : Value → Shared → Prop} {s : Shared} {K : Frag} {x C f : Addr} {ox : Obj} {od : Option Obj}
open Builtin in
end
end PySem.W
namespace Mw
open PySem L2 PySem.Spec PyProof.Rows
open Evl (Ex)
structure NeC (K : PySem.W.Frag) (C : Addr) : Prop where
  at_ : PySem.W.findIn K (.ref C) "__ne__" = some (some (.builtin "object.__ne__"))
  hm : PySem.W.mroIn K C (.type "object") = some true
section
variable {X : Cx} {CX : CXT} {k : Nat} {C g : Addr} {fd : FuncData} {ps : List PySem.Str} {sp : Sp} {dvs : List V} {ds : List Value} {E : XK}
end
section
variable {ω β : Type} {ro : Rp ω} {rb : Rp β} {C : Addr} {E : XK} {K : PySem.W.Frag}
end
end Mw
namespace Hm
open PySem PySem.Spec PyProof.Rows L2 He Mw
end Hm

set_option maxHeartbeats 2000000
/-! Sb: another name for a cell that an index picks; setdefault as a value. -/
namespace Mw
open PySem L2
open Evl (Ex)
section
variable {α β γ : Type} {ra : Rp α} {rb : Rp β} {rc : Rp γ} {σ : L2.St} {F H : Hp} {cs : Cs} {K : PySem.W.Frag} {te ti ta tb ty tv : TE} {tz : TS} {D : Ends} {c : Act} {p : Addr}
variable {cz : γ → Cs} {s s2 : γ}
end
section
variable {α β γ : Type} {ra : Rp α} {rb : Rp β} {σ : L2.St} {F H : Hp} {cs : γ → Cs} {K : PySem.W.Frag} {te : TE} {wi : TI} {g : TG} {tt : TT} {vs : List Nat}
end
end Mw

set_option maxHeartbeats 2000000
/-! Sc: objects that are new (none of their lists stood before); a loan whose result is such an object; a list unpacked into three names. -/
namespace Mw
open PySem L2
open Evl (Ex)
section
variable {α β γ δ ρ ω : Type} {ra : Rp α} {rb : Rp β} {rr : Rp ρ} {ro : Rp ω} {g : Gp δ} {σ : L2.St} {F H : Hp} {cs : Cs} {K : PySem.W.Frag} {te ta tb : TE} {tl : TA} {tz : TS} {D : Ends} {c : Act} {d : α} {m m' : Option α} {C : Addr} {E : XK}
/-- an expression whose value's lists are new since it began -/
def EMW {α : Type} (ra : Rp α) (te : TE) (σ : L2.St) (F : Hp) (cs : Cs) (m : Option α) : Prop := ∀ d, m = some d → ∀ c F1 H, Ex F F1 → Cov c F1 cs H → ∀ Q : VK, (∀ v F2 H2, Ex F1 F2 → Cov c F2 cs H2 → (rNew H ra).r F2 v d → Q v H2) → te σ H Q
theorem EMW.em (h : EMW ra te σ F cs m) : EM ra te σ F cs m := fun d q c F1 H e k Q hQ => h d q c F1 H e k Q fun v F2 H2 e2 k2 r2 => hQ v F2 H2 e2 k2 (nw r2)
/-! what is new in an activation -/
/-! calls whose result is new -/
end
section
variable {α0 α1 α2 δ : Type} {r0 : Rp α0} {r1 : Rp α1} {r2 : Rp α2} {g : Gp δ} {C : Addr} {n0 n1 n2 : Str} {σ : L2.St} {F H : Hp} {cs : Cs} {K : PySem.W.Frag} {te : TE} {tl : TA} {D : Ends} {c : Act} {tz : TS} {E : XK}
end
section
variable {α0 α1 α2 α3 δ : Type} {r0 : Rp α0} {r1 : Rp α1} {r2 : Rp α2} {r3 : Rp α3} {g : Gp δ} {C : Addr} {n0 n1 n2 n3 : Str} {σ : L2.St} {F H : Hp} {cs : Cs} {K : PySem.W.Frag} {te : TE} {tl : TA} {D : Ends} {c : Act} {tz : TS} {E : XK}
end

end Mw

set_option maxHeartbeats 2000000
/-! Sd: a def that changes its first cell and hands back (value, new dict). -/
namespace Mw
open PySem L2
open Evl (Ex)
section
variable {α β γ δ : Type} {rv : Rp α} {rb : Rp β} {g : Gp δ} {σ : L2.St} {F H : Hp} {cs : Cs} {K : PySem.W.Frag} {te : TE} {tl : TA} {tz : TS} {D : Ends} {c : Act} {E : XK} {p q : Addr}
variable {cz : γ → Cs} {A : Type} {get : γ → A} {put : γ → A → γ}
end
end Mw

set_option maxHeartbeats 2000000
/-! Se: a list of lists by a comprehension, each list a cell. -/
namespace Mw
open PySem L2
open Evl (Ex)
section
variable {α β : Type} {ra : Rp α} {rb : Rp β} {σ : L2.St} {F H : Hp} {cs : Cs} {K : PySem.W.Frag} {te : TE} {wi : TI} {g : TG} {vs : List Nat} {tz : TS} {D : Ends} {c : Act}
/-- what each item gives -/
inductive Each (f : β → Option (List α)) : List β → List (List α) → Prop
  | nil : Each f [] []
  | cons {d ds x xs} : f d = some x → Each f ds xs → Each f (d :: ds) (x :: xs)
theorem Each.len {f : β → Option (List α)} : ∀ {ds xs}, Each f ds xs → xs.length = ds.length
  | _, _, .nil => rfl
  | _, _, .cons _ h => by rw [List.length_cons, List.length_cons, h.len]
theorem Each.at_ {f : β → Option (List α)} : ∀ {ds xs}, Each f ds xs → ∀ {i : Nat} (h : i < ds.length) (h2 : i < xs.length), f ds[i] = some xs[i]
  | _, _, .cons q _, 0, _, _ => q
  | _, _, .cons _ t, i + 1, h, h2 => t.at_ (i := i) (by simpa using h) (by simpa using h2)
/-! a list of new lists by a comprehension, behind a loan -/
variable {F1 F2 H1 H2 : Hp} {p : Addr} {x x' : Cp} {m : Option (List α)} {P : Hp → Prop}
end
/-! walks over a list of cells -/
section
variable {α0 α1 α2 α3 δ : Type} {r0 : Rp α0} {r1 : Rp α1} {r2 : Rp α2} {r3 : Rp α3} {g : Gp δ} {tl : TA} {C : Addr} {E : XK} {n0 n1 n2 n3 : PySem.Str} {σ : L2.St} {F H : Hp} {cs : Cs}
end
end Mw

set_option maxHeartbeats 2000000
/-! Tx: texts. -/
namespace Mw
open PySem L2
open Evl (Ex)
abbrev rStrI : List V → Hp → VK → Prop := fun xs H Q => ∃ i, xs = [.int i] ∧ i.natAbs.log2 < 1920 ∧ Q (.str (toString i)) H
def strI (i : Int) : Option PySem.Str := if i.natAbs.log2 < 1920 then some (toString i) else none
theorem vc_strI : VC rStrI rInt rStr strI := fun c F cs H v a d k r q Q hQ => by
  cases r
  unfold strI at q
  split at q
  · rename_i h
    cases q
    exact ⟨a, rfl, h, hQ _ F H (Ex.refl _) k rfl⟩
  · cases q
def joinG (a : PySem.Str) (ys : List PySem.Str) : Option PySem.Str := if (ys.map (·.length)).sum + ys.length * a.length ≤ 16777216 then some (Txt.join a ys) else none
def catS (a b : PySem.Str) : Option PySem.Str := if a.length + b.length ≤ sizeLine then some (a ++ b) else none
abbrev rCatT : R2 := fun x y H Q => ∃ i j, x = .str i ∧ y = .str j ∧ i.length + j.length ≤ sizeLine ∧ Q (.str (i ++ j)) H
theorem vo_catS : VO rCatT rStr rStr rStr catS := fun c F cs H x y a b d k r1 r2 q Q hQ => by
  cases r1
  cases r2
  unfold catS at q
  split at q
  · rename_i h
    cases q
    exact ⟨a, b, rfl, rfl, h, hQ _ F H (Ex.refl _) k rfl⟩
  · cases q
section
variable {K : PySem.W.Frag} {σ : L2.St} {F : Hp} {cs : Cs} {to te t : TE} {ts : List TE} {m1 m : Option PySem.Str} {m2 : Option (List PySem.Str)} {ms : List (Option PySem.Str)} {acc : PySem.Str}
theorem rs_strs {F : Hp} : ∀ {vs : List V} {ys : List PySem.Str}, Rs rStr F vs ys → vs = ys.map V.str
  | [], [], .nil => rfl
  | v :: vs, y :: ys, .cons h t => by
    have h : v = .str y := h
    rw [List.map_cons, rs_strs t, h]
abbrev rJn (K : PySem.W.Frag) : V → List V → Hp → VK → Prop := fun x xs H Q => ∃ a p, ∃ ys : List PySem.Str, x = .str a ∧ xs = [.ref p] ∧ (SqL K H p (ys.map V.str) ∨ SqT K H p (ys.map V.str)) ∧ (ys.map (·.length)).sum + ys.length * a.length ≤ 16777216 ∧ Q (.str (Txt.join a ys)) H
theorem em_joinL (h1 : EM rStr to σ F cs m1) (h2 : EM (rLst rStr) te σ F cs m2) : EM rStr (tM1 (rJn K) to te) σ F cs (o2 joinG m1 m2) := fun d q c F1 H e k Q hQ => by
  obtain ⟨a, ys, q1, q2, q3⟩ := o2_some q
  unfold joinG at q3
  split at q3
  · rename_i hz
    cases q3
    refine h1 a q1 c F1 H e k _ fun v F2 H2 e2 k2 r2 => ?_
    cases r2
    refine ⟨⟨a, rfl⟩, h2 ys q2 c F2 H2 (e.trans e2) k2 _ fun u F3 H3 e3 k3 r3 => ?_⟩
    obtain ⟨p, vs, rfl, h3, h4⟩ := r3
    have := rs_strs h4
    subst this
    exact ⟨a, p, ys, rfl, rfl, .inl (SqL.of (k3.ex _ _ h3)), hz, hQ _ F3 H3 (e2.trans e3) k3 rfl⟩
  · cases q3
/-! f-strings -/
def fmtS (y : PySem.Str) : Option PySem.Str := if y.length ≤ sizeLine then some y else none
def cat2 (a b : PySem.Str) : Option PySem.Str := if (a ++ b).length ≤ sizeLine then some (a ++ b) else none
def foldS : PySem.Str → List (Option PySem.Str) → Option PySem.Str
  | acc, [] => some acc
  | acc, m :: ms => m.bind fun y => (cat2 acc y).bind fun z => foldS z ms
def EJ (ts : List TE) (σ : L2.St) (F : Hp) (cs : Cs) (ms : List (Option PySem.Str)) : Prop := ∀ acc out, foldS acc ms = some out → ∀ c F1 H, Ex F F1 → Cov c F1 cs H → ∀ Q : PySem.Str → Hp → Prop, (∀ F2 H2, Ex F1 F2 → Cov c F2 cs H2 → Q out H2) → tJs ts acc σ H Q
theorem ej_nil : EJ [] σ F cs [] := fun acc out q c F1 H e k Q hQ => by
  cases q
  exact hQ F1 H (Ex.refl _) k
theorem ej_cons (h : EM rStr t σ F cs m) (r : EJ ts σ F cs ms) : EJ (t :: ts) σ F cs (m :: ms) := fun acc out q c F1 H e k Q hQ => by
  obtain ⟨y, q1, q⟩ := bind_some q
  obtain ⟨z, q2, q3⟩ := bind_some q
  unfold cat2 at q2
  split at q2
  · rename_i hz
    cases q2
    refine h y q1 c F1 H e k _ fun v F2 H2 e2 k2 r2 => ?_
    cases r2
    exact ⟨y, rfl, hz, r _ out q3 c F2 H2 (e.trans e2) k2 Q fun F3 H3 e3 k3 => hQ F3 H3 (e2.trans e3) k3⟩
  · cases q2
abbrev tFs (ts : List TE) : TE := fun σ H Q => tJs ts Str.empty σ H fun out H1 => Q (.str out) H1
theorem em_fstr (h : EJ ts σ F cs ms) : EM rStr (tFs ts) σ F cs (foldS Str.empty ms) := fun d q c F1 H e k Q hQ =>
  h _ d q c F1 H e k _ fun F2 H2 e2 k2 => hQ _ F2 H2 e2 k2 rfl
theorem em_fmtS (h : EM rStr te σ F cs m) : EM rStr (tFmt te) σ F cs (o1 fmtS m) := fun d q c F1 H e k Q hQ => by
  obtain ⟨y, q1, q2⟩ := o1_some q
  unfold fmtS at q2
  split at q2
  · rename_i hz
    obtain rfl := Option.some.inj q2
    refine h y q1 c F1 H e k _ fun v F2 H2 e2 k2 r2 => ?_
    cases r2
    exact .inl ⟨y, rfl, hz, hQ _ F2 H2 e2 k2 rfl⟩
  · cases q2
end
end Mw
namespace L2
open PySem PySem.Spec PyProof.Rows
end L2
namespace Mw
open PySem L2
open Evl (Ex)
end Mw

set_option maxHeartbeats 2000000
/-! Sg: a list of pairs of a value and a list that is a cell. -/
namespace Mw
open PySem L2
open Evl (Ex)
section
variable {α β ρ γ : Type} {ra : Rp α} {rb : Rp β} {rr : Rp ρ} {σ : L2.St} {F H : Hp} {cz : γ → Cs} {cs : Cs} {K : PySem.W.Frag} {te ta tb ti tr : TE} {wi : TI} {g : TG} {vs : List Nat} {tz : TS} {D : Ends} {c : Act}
inductive EachS (f : β → γ → Option (List α × γ)) : List β → γ → List (List α) → γ → Prop
  | nil {s} : EachS f [] s [] s
  | cons {d ds x xs s s1 s2} : f d s = some (x, s1) → EachS f ds s1 xs s2 → EachS f (d :: ds) s (x :: xs) s2
/-- the pairs: values, then the addresses of the lists -/
inductive PPs (rr : Rp ρ) (F : Hp) : List V → List Addr → List ρ → Prop
  | nil : PPs rr F [] [] []
  | cons {t p w d vs ps ds} : F t = some (.tup [w, .ref p]) → rr.r F w d → PPs rr F vs ps ds → PPs rr F (.ref t :: vs) (p :: ps) (d :: ds)
theorem PPs.up {F F' : Hp} (e : Ex F F') : ∀ {vs ps} {ds : List ρ}, PPs rr F vs ps ds → PPs rr F' vs ps ds
  | _, _, _, .nil => .nil
  | _, _, _, .cons h1 h2 h3 => .cons (e _ _ h1) (rr.up e h2) (h3.up e)
theorem PPs.snoc {F : Hp} {t p : Addr} {w : V} {d : ρ} (h1 : F t = some (.tup [w, .ref p])) (h2 : rr.r F w d) : ∀ {vs ps} {ds : List ρ}, PPs rr F vs ps ds → PPs rr F (vs ++ [.ref t]) (ps ++ [p]) (ds ++ [d])
  | _, _, _, .nil => .cons h1 h2 .nil
  | _, _, _, .cons a b c => .cons a b (c.snoc h1 h2)
theorem PPs.len {F : Hp} : ∀ {vs ps} {ds : List ρ}, PPs rr F vs ps ds → vs.length = ds.length ∧ ps.length = ds.length
  | _, _, _, .nil => ⟨rfl, rfl⟩
  | _, _, _, .cons _ _ h => ⟨by rw [List.length_cons, List.length_cons, h.len.1], by rw [List.length_cons, List.length_cons, h.len.2]⟩
/-- the list of the pair at an index -/
def rTq : Rp V := ⟨fun F v q => ∃ t w, v = .ref t ∧ F t = some (.tup [w, q]), fun e ⟨t, w, h1, h2⟩ => ⟨t, w, h1, e _ _ h2⟩⟩
theorem PPs.rs {F : Hp} : ∀ {ws ps} {ds : List ρ}, PPs rr F ws ps ds → Rs rTq F ws (ps.map V.ref)
  | _, _, _, .nil => .nil
  | _, _, _, .cons h1 h2 h3 => .cons ⟨_, _, rfl, h1⟩ h3.rs
end
end Mw

set_option maxHeartbeats 2000000
/-! Wn: windows: objects that hold a list of their own, which is a cell; calls of own objects. -/
namespace PySem.W
open PySem PySem.Spec PySem.Calls PyProof.Rows
end PySem.W
namespace L2
open PySem PySem.Spec PySem.Calls PyProof.Rows
section
variable {X : Cx} {CX : CXT} {k i : Nat} {f C : Addr} {fd : FuncData} {ps ks : List Str} {sp : Sp} {E : St → XK} {x : Str} {p pos : Pos} {e : Expr} {es : List Expr} {kws : List Keyword} {t tk : TA} {g : List Value → List Value → List Value} {gV : List V → List V → List V}
end
end L2
namespace Mw
open PySem PySem.Spec PyProof.Rows L2
open Evl (Ex)
/-! ### objects that hold a list which is a cell -/
section
variable {α β γ δ ρ A B : Type} {ra : Rp α} {rb : Rp β} {rr : Rp ρ} {g : Gp δ} {σ : L2.St} {F H : Hp} {cs : Cs} {cz : γ → Cs} {s : γ} {ta : TA} {te tb : TE} {K : PySem.W.Frag} {L : List PySem.Str} {W : WX} {c : Act} {D : Ends} {tz : TS}
/-! ### promises of what changes several cells -/
/-- some of the cells are those that are handed on -/
structure Sel (cs : γ → Cs) (cl : B → Cs) (get : γ → B) (put : γ → B → γ) (rest : γ → Cs) : Prop where
  go : ∀ s, (cs s).Perm (cl (get s) ++ rest s)
  bk : ∀ s b, (cl b ++ rest s).Perm (cs (put s b))
variable {cl : A → B → Cs} {G : A → Gp δ} {get : γ → B} {put : γ → B → γ} {rest : γ → Cs} {q : A}
theorem Sel.pre (S : Sel cz (cl q) get put rest) (k : Cov c F (cz s) H) : Cov ⟨H, F, (cl q (get s)).map (·.1)⟩ F (cl q (get s)) H := by
  have z := (k.perm (S.go s)).keepN (cl q (get s)).length
  rw [List.take_left] at z
  exact z.base
/-- .. where it does not raise -/
def okS (m : Option (Except Er ρ × γ)) : Option (ρ × γ) := m.bind fun r => (okG r.1).map fun x => (x, r.2)
/-! ### making such objects -/
end
end Mw
namespace L2
open PySem PySem.Spec PySem.Calls PyProof.Rows
section
variable {X : Cx} {CX : CXT} {k : Nat} {f C : Addr} {fd : FuncData} {ps ks : List Str} {sp : Sp} {E : St → XK} {m : Str} {pos apos : Pos} {o : Expr} {kws : List Keyword} {ta : TE} {tk : TA} {g : List Value → List Value → List Value} {gV : List V → List V → List V}
end
end L2
namespace Mw
open PySem PySem.Spec PyProof.Rows L2
open Evl (Ex)
open He (ga ma)
section
variable {α β γ δ ρ ω A B : Type} {ra : Rp α} {rb : Rp β} {rr : Rp ρ} {ro : Rp ω} {g : Gp δ} {σ : L2.St} {F H : Hp} {cs : Cs} {cz : γ → Cs} {s : γ} {ta tk : TA} {te tb tr : TE} {K : PySem.W.Frag} {L : List PySem.Str} {mg : PySem.Str → Option Value} {W : WX} {c : Act} {D : Ends} {tz : TS}
variable {cl : A → B → Cs} {get : γ → B} {put : γ → B → γ} {rest : γ → Cs} {q : A} {G' : A → Gp (ω × δ)}
/-! ### methods and calls by name that change cells -/
/-! ### statements -/
/-! ### loans to what may raise: the error must be new -/
def EMXW {α : Type} (K : PySem.W.Frag) (L : List PySem.Str) (W : WX) (ra : Rp α) (te : TE) (σ : L2.St) (F : Hp) (cs : Cs) (m : Option (Except Er α)) : Prop := ∀ d, m = some d → ∀ c F1 H, Ex F F1 → Cov c F1 cs H → ∀ Q : VK,
  (∀ x, d = .ok x → ∀ v F2 H2, Ex F1 F2 → Cov c F2 cs H2 → ra.r F2 v x → Q v H2) → (∀ er, d = .error er → ∀ cls dd F2 H2, Ex F1 F2 → Cov c F2 cs H2 → (∀ a, dd = some a → c.H0 a = none) → rEr K L F2 cls dd er → W cls dd σ H2) → te σ H Q
theorem EMXW.x {m : Option (Except Er α)} (h : EMXW K L W ra te σ F cs m) : EMX K L W ra te σ F cs m := fun d q c F1 H e k Q hQ hE => h d q c F1 H e k Q hQ fun er ee cls dd F2 H2 e2 k2 _ r2 => hE er ee cls dd F2 H2 e2 k2 r2
/-! statements whose error is new -/
structure CalCX (P : Program) (w : World) (K : PySem.W.Frag) (mg : PySem.Str → Option Value) (base : Heap) (k : Nat) (C : Addr) (m : PySem.Str) (ps : List PySem.Str) (sp : Sp) (X : FuncData → Prop) : Prop where
  ex : ∃ f fd, FnOk P w K mg base (L2.CX P w) k f fd ps sp ∧ Meth K C m f ∧ PySem.W.fnIn K f = true ∧ Binds K fd ps [] ∧ X fd
end
end Mw

set_option maxHeartbeats 2000000
/-! Wo: further rules of windows' laws. -/
namespace Mw
open PySem PySem.Spec PyProof.Rows L2
open Evl (Ex)
open He (ga ma)
section
variable {α β γ δ ρ ω A B : Type} {ra : Rp α} {rb : Rp β} {rr : Rp ρ} {ro : Rp ω} {g : Gp δ} {σ : L2.St} {F H : Hp} {cs : Cs} {cz : γ → Cs} {s : γ} {ta tk : TA} {te tb tr : TE} {K : PySem.W.Frag} {L : List PySem.Str} {mg : PySem.Str → Option Value} {W : WX} {c : Act} {D : Ends} {tz : TS}
end
end Mw
namespace Hm
open PySem PySem.Spec PyProof.Rows L2 He
/-! a hook that looks at given addresses; defs with defaults -/
abbrev DefV : Type := DefM × List V
def okV (K : PySem.W.Frag) (d : DefV) : Bool := PySem.W.keepIn K (.ref (d.1.at_ K)) && (match K.lookup (d.1.at_ K) with
  | some ⟨_, _, .func fd, _⟩ => PySem.W.codeIn K fd.code d.1.qual && (dflB K fd.defaults d.2 && kwdB K fd.kwdefaults [])
  | _ => false)
theorem funDV {K : PySem.W.Frag} {d : DefV} (e : fnM K (d.1.at_ K) = d.1.val) (c : okV K d = true) : ∃ fd, FunD K d.1.name d.1.qual d.1.params d.1.body d.1.scope d.2 [] (d.1.at_ K) fd := by
  obtain ⟨kp, c2⟩ := ba c
  unfold fnM at e
  cases q : K.lookup (d.1.at_ K) with
  | none =>
    rw [q] at c2
    cases c2
  | some o =>
    obtain ⟨oc, od, dt, osl⟩ := o
    rw [q] at c2 e
    cases dt with
    | func fd =>
      obtain ⟨n1, n2, n3, n4, n5, n6, n7, n8, n9, n10, n11, n12, n13, n14, n15⟩ := fd
      have e2 : (some (n1, n2, n3, n4, n5, n6, n7, n15) : FnW) = some (d.1.name, d.1.qual, d.1.params, .stmts d.1.body, d.1.scope, mainGlobals, [], builtinsNs) := e
      simp only [Option.some.injEq, Prod.mk.injEq] at e2
      obtain ⟨h1, h2, h3, h4, h5, h6, h7, h8⟩ := e2
      subst h1 h2 h3 h4 h5 h6 h7 h8
      have c3 : (PySem.W.codeIn K n13 d.1.qual && (dflB K n8 d.2 && kwdB K n9 [])) = true := c2
      obtain ⟨k1, k2⟩ := ba c3
      obtain ⟨k3, k4⟩ := ba k2
      exact ⟨_, ⟨oc, od, n8, n9, n10, n11, n12, n13, n14, osl, rfl, q, k1, dflB_ok k3, kwdB_ok k4⟩, kp⟩
    | _ => cases c2
def obsV (fa : List Fc) (fn : List DefV) (K : PySem.W.Frag) : AlD := ((fa.all fun f => f K) && fn.all fun d => okV K d, fn.map fun d => fnM K (d.1.at_ K))
def valV (fn : List DefV) : AlD := (true, fn.map fun d => d.1.val)
def SaysV (fa : List Fc) (fn : List DefV) (K : PySem.W.Frag) : Prop := obsV fa fn K = valV fn
section
variable {fa : List Fc} {fn : List DefV} {K : PySem.W.Frag}
theorem SaysV.fact (c : SaysV fa fn K) (i : Nat) {f : Fc} (h : fa[i]? = some f := by rfl) : f K = true := by
  have c1 := (ba (show ((fa.all fun f => f K) && fn.all fun d => okV K d) = true from congrArg (fun z : AlD => z.1) c)).1
  exact List.all_eq_true.mp c1 f (List.mem_of_getElem? h)
theorem SaysV.def_ (c : SaysV fa fn K) (i : Nat) {d : DefM} {dv : List V} (h : fn[i]? = some (d, dv) := by rfl) : ∃ fd, FunD K d.name d.qual d.params d.body d.scope dv [] (d.at_ K) fd := by
  have c2 := (ba (show ((fa.all fun f => f K) && fn.all fun d => okV K d) = true from congrArg (fun z : AlD => z.1) c)).2
  have e : (fn.map fun d => fnM K (d.1.at_ K)) = fn.map fun d => d.1.val := congrArg (fun z : AlD => z.2) c
  have e2 : (fn.map fun d => fnM K (d.1.at_ K))[i]? = (fn.map fun d => d.1.val)[i]? := by rw [e]
  rw [List.getElem?_map, List.getElem?_map, h] at e2
  exact funDV (d := (d, dv)) (Option.some.inj e2) (List.all_eq_true.mp c2 (d, dv) (List.mem_of_getElem? h))
end
end Hm

set_option maxHeartbeats 2000000
/-! Wp: a try with several clauses 'except C as e'. -/
namespace L2
open PySem PySem.Spec PyProof.Rows
inductive HdsT (X : Cx) (n : Str) : List ExceptHandler → List (Value × TS) → Prop
  | nil : HdsT X n [] []
  | cons {x : Str} {c : Value} {ts : TS} {b₀ : Stmt} {suite : List Stmt} {np pos' : Pos} {hds : List ExceptHandler} {l : List (Value × TS)} (hc : Names X x c) (hsu : ∀ (a : Addr) (pn : List (Addr × Obj)), PSs (X.suT a pn) (b₀ :: suite) ts) (r : HdsT X n hds l) :
      HdsT X n (.ExceptHandler (some (.Name x np)) (some n) (b₀ :: suite) pos' :: hds) ((c, ts) :: l)
section
variable {X : Cx} {n : Str} {i : Nat} {body : List Stmt} {h₀ : ExceptHandler} {hds : List ExceptHandler} {l : List (Value × TS)} {pos : Pos} {tb : WX → TS} {Wout : WX}
end
end L2
namespace Mw
open PySem PySem.Spec PyProof.Rows L2
open Evl (Ex)
section
variable {α β ρ : Type} {ra : Rp α} {rb : Rp β} {rr : Rp ρ} {σ : L2.St} {F H : Hp} {cs : Cs} {ta tb te : TE} {tt : TT} {tu tw tz : TS} {K : PySem.W.Frag} {L : List PySem.Str} {W : WX} {c : Act} {D : Ends} {rd : R2}
end
end Mw

set_option maxHeartbeats 2000000
/-! Wq: a list inside a value that came new from a call is changed later (late thaw). -/
namespace Mw
open PySem L2
open Evl (Ex)
/-- the frozen heap without one address -/
def hole (F : Hp) (p : Addr) : Hp := fun b => if b = p then none else F b
section
variable {α β γ δ ρ : Type} {ra : Rp α} {rb : Rp β} {σ : L2.St} {F H FS HS : Hp} {cs csS : Cs} {K : PySem.W.Frag} {te ta tb : TE} {tz : TS} {D : Ends} {c : Act} {d : α} {m m' : Option α}
/-! ### raising defs whose results are new -/
variable {rr : Rp ρ} {g : Gp δ} {L : List PySem.Str} {W : WX} {ta tk : TA}
def EMXN {α : Type} (K : PySem.W.Frag) (L : List PySem.Str) (W : WX) (ra : Rp α) (te : TE) (σ : L2.St) (F : Hp) (m : Option (Except Er α)) : Prop := ∀ d, m = some d → ∀ F1 H, Ex F F1 → Ex F1 H → ∀ Q : VK,
  (∀ x, d = .ok x → ∀ v F2 H2, Cov ⟨H, F1, []⟩ F2 [] H2 → (rNew H ra).r F2 v x → Q v H2) → (∀ er, d = .error er → ∀ cls dd F2 H2, Cov ⟨H, F1, []⟩ F2 [] H2 → rEr K L F2 cls dd er → W cls dd σ H2) → te σ H Q
theorem EMXN.x {m : Option (Except Er α)} (h : EMXN K L W ra te σ F m) : EMX K L W ra te σ F cs m := fun d q c F1 H e k Q hQ hE => h d q F1 H e k.ex Q (fun x ex v F2 H2 k2 r2 => hQ x ex v F2 H2 k2.fz (k.call0 k2) (nw r2)) fun er ee cls dd F2 H2 k2 r2 => hE er ee cls dd F2 H2 k2.fz (k.call0 k2) r2
/-! ### a late thaw beside cells -/
/-! ### a def that changes its third parameter, given a new dict -/
end
end Mw

set_option maxHeartbeats 2000000
/-! Wr: plans (pairs and fours of tuples within tuples), bit_length. -/
namespace Mw
open PySem L2
open Evl (Ex)
inductive Plan where
  | sh (p : List Int)
  | lk (p : List Int) (a b : Plan)
deriving DecidableEq
def plR (K : PySem.W.Frag) (F : Hp) : V → Plan → Prop
  | v, .sh p => ∃ a v2, v = .ref a ∧ F a = some (.tup [.str "shift", v2]) ∧ (rTup K rInt).r F v2 p
  | v, .lk p x y => ∃ a v2 v3 v4, v = .ref a ∧ F a = some (.tup [.str "look", v2, v3, v4]) ∧ (rTup K rInt).r F v2 p ∧ plR K F v3 x ∧ plR K F v4 y
theorem plR_up {K : PySem.W.Frag} {F F' : Hp} (e : Ex F F') : ∀ {v : V} {d : Plan}, plR K F v d → plR K F' v d
  | _, .sh _, ⟨a, v2, h1, h2, h3⟩ => ⟨a, v2, h1, e _ _ h2, (rTup K rInt).up e h3⟩
  | _, .lk _ _ _, ⟨a, v2, v3, v4, h1, h2, h3, h4, h5⟩ => ⟨a, v2, v3, v4, h1, e _ _ h2, (rTup K rInt).up e h3, plR_up e h4, plR_up e h5⟩
theorem plR_tp {K : PySem.W.Frag} {F F' : Hp} (e : TupKeep F F') : ∀ {v : V} {d : Plan}, plR K F v d → plR K F' v d
  | _, .sh _, ⟨a, v2, h1, h2, h3⟩ => ⟨a, v2, h1, e _ _ h2, (tp_tup (K := K)).t e h3⟩
  | _, .lk _ _ _, ⟨a, v2, v3, v4, h1, h2, h3, h4, h5⟩ => ⟨a, v2, v3, v4, h1, e _ _ h2, (tp_tup (K := K)).t e h3, plR_tp e h4, plR_tp e h5⟩
def rPl (K : PySem.W.Frag) : Rp Plan := ⟨fun F v d => plR K F v d, fun e h => plR_up e h⟩
instance tp_pl {K : PySem.W.Frag} : TP (rPl K) := ⟨fun e h => plR_tp e h⟩
section
variable {σ : L2.St} {F : Hp} {cs : Cs} {K : PySem.W.Frag} {te ta tb tc ti : TE}
end
end Mw

set_option maxHeartbeats 2000000
/-! Ws: plans whose parts may be None. -/
namespace Mw
open PySem L2
open Evl (Ex)
inductive PlanN where
  | no
  | sh (p : List Int)
  | lk (p : List Int) (a b : PlanN)
deriving DecidableEq
def pnR (K : PySem.W.Frag) (F : Hp) : V → PlanN → Prop
  | v, .no => v = .non
  | v, .sh p => ∃ a v2, v = .ref a ∧ F a = some (.tup [.str "shift", v2]) ∧ (rTup K rInt).r F v2 p
  | v, .lk p x y => ∃ a v2 v3 v4, v = .ref a ∧ F a = some (.tup [.str "look", v2, v3, v4]) ∧ (rTup K rInt).r F v2 p ∧ pnR K F v3 x ∧ pnR K F v4 y
theorem pnR_up {K : PySem.W.Frag} {F F' : Hp} (e : Ex F F') : ∀ {v : V} {d : PlanN}, pnR K F v d → pnR K F' v d
  | _, .no, h => h
  | _, .sh _, ⟨a, v2, h1, h2, h3⟩ => ⟨a, v2, h1, e _ _ h2, (rTup K rInt).up e h3⟩
  | _, .lk _ _ _, ⟨a, v2, v3, v4, h1, h2, h3, h4, h5⟩ => ⟨a, v2, v3, v4, h1, e _ _ h2, (rTup K rInt).up e h3, pnR_up e h4, pnR_up e h5⟩
theorem pnR_tp {K : PySem.W.Frag} {F F' : Hp} (e : TupKeep F F') : ∀ {v : V} {d : PlanN}, pnR K F v d → pnR K F' v d
  | _, .no, h => h
  | _, .sh _, ⟨a, v2, h1, h2, h3⟩ => ⟨a, v2, h1, e _ _ h2, (tp_tup (K := K)).t e h3⟩
  | _, .lk _ _ _, ⟨a, v2, v3, v4, h1, h2, h3, h4, h5⟩ => ⟨a, v2, v3, v4, h1, e _ _ h2, (tp_tup (K := K)).t e h3, pnR_tp e h4, pnR_tp e h5⟩
def rPN (K : PySem.W.Frag) : Rp PlanN := ⟨fun F v d => pnR K F v d, fun e h => pnR_up e h⟩
instance tp_pn {K : PySem.W.Frag} : TP (rPN K) := ⟨fun e h => pnR_tp e h⟩
section
variable {σ : L2.St} {F : Hp} {cs : Cs} {K : PySem.W.Frag} {te ta tb tc ti : TE}
end
end Mw

set_option maxHeartbeats 2000000
/-! Wu: super().m(..) within a method; a def whose closure is the cell of its class. -/
namespace L2
open PySem PySem.Spec PySem.Calls PyProof.Rows NdefX ClX
/-- a statement, run in the def's own code -/
structure PSA (X : Cx) (B : List Stmt) (st : Stmt) (t : TS) : Prop where
  run : ∀ (pins : List (Addr × Obj)) (s : Shared) (σ : St) (H : Hp) (D : Ends), Inv X pins σ H s → t D σ H → _root_.PySem.wpAt (model X.prog X.w) X.A (.func B X.env) (exec st X.env) (SP X pins D) X.xe s
structure PSsA (X : Cx) (B : List Stmt) (st : List Stmt) (t : TS) : Prop where
  run : ∀ (pins : List (Addr × Obj)) (s : Shared) (σ : St) (H : Hp) (D : Ends), Inv X pins σ H s → t D σ H → _root_.PySem.wpAt (model X.prog X.w) X.A (.func B X.env) (execs st X.env) (SP X pins D) X.xe s
section
variable {X : Cx} {B : List Stmt} {st : Stmt} {rest : List Stmt} {t u : TS}
/-- what super() wants of the text -/
structure Sup (X : Cx) (C D : Addr) (m : Str) (ar : Arg) (f2 : Addr) : Prop where
  hks : X.env.kindOf "super" = some .globalImplicit
  hkc : X.env.kindOf "__class__" = some .free
  hka : X.env.kindOf ar.arg = some .local
  fn : ∃ (f : Addr) (oc : Value) (od : Option Addr) (osl : Array (Option Value)) (fd : FuncData), X.env.func = some f ∧ X.K.lookup f = some ⟨oc, od, .func fd, osl⟩ ∧ (fd.params.posonlyargs ++ fd.params.args).head? = some ar
  cd : ∃ (cda : Addr) (ccl : Value) (cdd : Option Addr) (ccs : Array (Option Value)) (vs : Array Value) (file : Str) (tf : Tok), X.env.code = .ref cda ∧ X.K.lookup cda = some ⟨ccl, cdd, .fields vs, ccs⟩ ∧ vs[2]? = some (.str file tf) ∧ ((X.prog.main.file : Str) == file) = true
  top : (X.prog.main.scope.names.lookup ("super" : Str)).isSome = false
  cl : ∃ (cc : Addr) (cl : Value) (cld : Option Addr) (csl : Array (Option Value)), X.env.cells.lookup ("__class__" : Str) = some cc ∧ X.K.lookup cc = some ⟨cl, cld, .cell (some (.ref D)), csl⟩
  cls : ∃ cdD, PySem.W.clsIn X.K D = some cdD
  sub : PySem.W.mroIn X.K C (.ref D) = some true
  sup : X.mg "super" = none
  any : PySem.W.nsIn X.K cStatics "thirdparty.any" = some none
  meth : PySem.W.ks_superIn X.K C D m = some (some (.ref f2))
  ty : PySem.W.typeIn X.K (.ref f2) = some (.type "function")
  fi : PySem.W.fnIn X.K f2 = true
  nm : (m == ("__class__" : Str)) = false
variable {CX : CXT} {k : Nat} {C D f2 : Addr} {m : Str} {ar : Arg} {fd2 : FuncData} {ps : List Str} {sp : Sp} {E : St → XK} {p0 p1 apos pos pos2 : Pos} {e : Expr} {es : List Expr} {ta : TA}
end
/-- a def whose closure is the cell of its class -/
theorem fn_ofS {CX : CXT} {P : Program} {w : World} {K : PySem.W.Frag} {mg : Str → Option Value} {base : Heap} {k : Nat} {f : Addr} {name : Str} {params : Arguments} {body : List Stmt} {F : NF} {dV kV doc pm ct oc cl : Value} {an od cld : Option Addr}
    {osl csl : Array (Option Value)} {N ps : List Str} {sp : Sp} {cc D : Addr} (lk : K.lookup f = some ⟨oc, od, .func (PySem.W.fnX name F.qual params body F.scope F.cl dV kV doc pm an (.ref F.c) ct), osl⟩) (hcd : PySem.W.codeIn K (.ref F.c) F.qual = true) (S : NScope N ps ["__class__"] F.scope)
    (hcl : F.cl = [(("__class__" : Str), cc)]) (hcell : K.lookup cc = some ⟨cl, cld, .cell (some (.ref D)), csl⟩)
    (len : ∀ vs H Q E, sp vs H Q E → vs.length = ps.length)
    (hbody : ∀ (A : Around) (outer : List Env) (s : Shared) (H : Hp) (vs : List V) (Q : VK) (E : XK), Room k (A.deeper (envF F f s.heap.objs.size)) → sp vs H Q E →
      ∃ t, PSsA (ncx CX P w K mg base N F f A outer s H E) body body t ∧ t { nx := fun _ H' => Q .non H', rt := Q } (startF N vs [none]) H) :
    FnOk P w K mg base CX (k + 1) f (PySem.W.fnX name F.qual params body F.scope F.cl dV kV doc pm an (.ref F.c) ct) ps sp := by
  refine ⟨len, fun A outer s H args us vs Q E hr e0 hb r hsp => ?_⟩
  have hl := len _ _ _ _ hsp
  have KX : K.In s.heap := e0.mod.kin.keeps fun b o e => (e0.bs b o e).1
  have lim : s.heap.NoLimit := e0.mod.nolimit.keeps fun b o e => (e0.bs b o e).1
  refine codeAny_call_function hr.depth (KX _ _ lk) rfl S.co S.gen rfl (PySem.W.codeRec_of KX hcd) (hb _ _ _ _ ?_)
  refine wpAny_newFunctionEnv S.nocell (fun y hy => ?_) (fun h₁ hns hsb => ⟨lim.fresh _ hsb, ?_⟩) S.kind
  · obtain ⟨n, v⟩ := y
    exact S.par n (List.of_mem_zip hy).1
  have kp : ∀ b o, s.heap.get? b = some o → h₁.get? b = some o := fun b o e => hsb.extBut b o (Nat.ne_of_lt (Heap.lt_size e)) (Heap.get?_push_of_some _ e)
  have C : CellsAt F.cl ["__class__"] [none] s.heap H := by
    have kb : H cc = none ∧ s.heap.IsCell cc (some (.ref D)) := ⟨(e0.bs _ _ (e0.mod.kin _ _ hcell)).2, _, KX _ _ hcell, rfl⟩
    have lk1 : ∀ {y : Str} {c : Addr}, F.cl.lookup y = some c → c = cc ∧ y = "__class__" := fun {y c} e => by
      rw [hcl] at e
      have hm := PySem.mem_of_lookup e
      simp only [List.mem_singleton, Prod.mk.injEq] at hm
      exact ⟨hm.2, hm.1⟩
    refine ⟨rfl, fun y c e => ?_, fun x y c e1 e2 => (lk1 e1).2.trans (lk1 e2).2.symm, fun i y e => ?_⟩
    · obtain ⟨rfl, _⟩ := lk1 e
      exact ⟨kb.1, _, kb.2⟩
    · cases i with
      | zero =>
        obtain rfl : ("__class__" : Str) = y := Option.some.inj e
        exact ⟨cc, by rw [hcl]; simp [List.lookup], fun v z => by cases z⟩
      | succ n => cases e
  have I : Inv (ncx CX P w K mg base N F f A outer s H E) [] (startF N vs [none]) H { s with heap := h₁, toks := s.toks + (ps.zip us).length } := inv_startN S hr.hd e0 hl r C hns kp
  obtain ⟨t, ht, hq⟩ := hbody A outer s H vs Q E (hr.deeper _) hsp
  refine ks_codeAny_funcAt (ks_wpAt_mono (ht.run [] _ _ H _ I hq) (fun fl s' hs => ?_) fun e s' hs => hs)
  have fin : ∀ {σ' : St} {H' : Hp} {v : V} {u : Value}, Inv (ncx CX P w K mg base N F f A outer s H E) [] σ' H' s' → RelV v u → Q v H' → CE outer P w H s Q u s' :=
    fun {σ' H' v u} J rv q => ⟨v, H', J.os, J.bare, J.base, J.hok, rv, q⟩
  cases fl with
  | ret u =>
    obtain ⟨v, σ', H', J, rv, q⟩ := hs
    exact fin J rv q
  | next =>
    obtain ⟨σ', H', J, q⟩ := hs
    exact fin (v := V.non) (u := Value.none) J rfl q
  | brk =>
    obtain ⟨_, _, _, q⟩ := hs
    exact False.elim q
  | cont =>
    obtain ⟨_, _, _, q⟩ := hs
    exact False.elim q
end L2
/-! ### such a def, told by the text -/
namespace L2
open PySem PySem.Spec PySem.Calls PyProof.Rows NdefX ClX
structure SupK (K : PySem.W.Frag) (C D : Addr) (m : Str) (f2 : Addr) : Prop where
  cls : ∃ cdD, PySem.W.clsIn K D = some cdD
  sub : PySem.W.mroIn K C (.ref D) = some true
  any : PySem.W.nsIn K cStatics "thirdparty.any" = some none
  meth : PySem.W.ks_superIn K C D m = some (some (.ref f2))
  ty : PySem.W.typeIn K (.ref f2) = some (.type "function")
  fi : PySem.W.fnIn K f2 = true
structure FunS (K : PySem.W.Frag) (x qual : Str) (params : Arguments) (body : List Stmt) (scope : Scope) (D : Addr) (file : Str) (f : Addr) (fd : FuncData) : Prop where
  ex : ∃ (oc : Value) (od : Option Addr) (dV kV doc pm : Value) (an : Option Addr) (c : Addr) (ct : Value) (osl : Array (Option Value)) (cc : Addr) (cl : Value) (cld : Option Addr) (csl : Array (Option Value)) (ccl : Value) (cdd : Option Addr) (ccs : Array (Option Value)) (vs : Array Value) (tf : Tok),
    fd = PySem.W.fnX x qual params body scope [("__class__", cc)] dV kV doc pm an (.ref c) ct ∧ K.lookup f = some ⟨oc, od, .func fd, osl⟩ ∧ PySem.W.codeIn K (.ref c) qual = true ∧ DflV K dV [] ∧ KwdV K kV [] ∧ K.lookup cc = some ⟨cl, cld, .cell (some (.ref D)), csl⟩ ∧ K.lookup c = some ⟨ccl, cdd, .fields vs, ccs⟩ ∧ vs[2]? = some (.str file tf)
  kp : PySem.W.keepIn K (.ref f) = true
abbrev nfS (x qual : Str) (params : Arguments) (body : List Stmt) (scope : Scope) (cc c : Addr) : NF := ⟨x, qual, params, body, scope, [("__class__", cc)], c⟩
section
variable {P : Program} {w : World} {K : PySem.W.Frag} {mg : Str → Option Value} {base : Heap} {x qual : Str} {params : Arguments} {body : List Stmt} {scope : Scope} {f C D f2 : Addr} {fd : FuncData} {file m : Str} {ar : Arg}
theorem FunS.ok {CX : CXT} {N ps : List Str} {k : Nat} {sp : Sp} (F : FunS K x qual params body scope D file f fd) (S : NScope N ps ["__class__"] scope) (hS : SupK K C D m f2) (hg : mg "super" = none)
    (hP : ((P.main.file : Str) == file) = true ∧ (P.main.scope.names.lookup ("super" : Str)).isSome = false) (nm : (m == ("__class__" : Str)) = false)
    (hp : (params.posonlyargs ++ params.args).head? = some ar) (hks : scope.names.lookup ("super" : Str) = some .globalImplicit) (hkc : scope.names.lookup ("__class__" : Str) = some .free) (hka : scope.names.lookup ar.arg = some .local)
    (len : ∀ vs H Q E, sp vs H Q E → vs.length = ps.length)
    (hbody : ∀ (cc c : Addr) (A : Around) (outer : List Env) (s : Shared) (H : Hp) (vs : List V) (Q : VK) (E : XK), Room k (A.deeper (envF (nfS x qual params body scope cc c) f s.heap.objs.size)) → Sup (ncx CX P w K mg base N (nfS x qual params body scope cc c) f A outer s H E) C D m ar f2 → sp vs H Q E →
      ∃ t, PSsA (ncx CX P w K mg base N (nfS x qual params body scope cc c) f A outer s H E) body body t ∧ t { nx := fun _ H' => Q .non H', rt := Q } (startF N vs [none]) H) : FnOk P w K mg base CX (k + 1) f fd ps sp := by
  obtain ⟨oc, od, dV, kV, doc, pm, an, c, ct, osl, cc, cl, cld, csl, ccl, cdd, ccs, vs, tf, rfl, lk, hcd, _, _, hcc, hcda, hvs⟩ := F.ex
  refine fn_ofS (F := nfS x qual params body scope cc c) lk hcd S rfl hcc len fun A outer s H zs Q E hr hsp => hbody cc c A outer s H zs Q E hr ?_ hsp
  exact ⟨hks, hkc, hka, ⟨f, oc, od, osl, _, rfl, lk, hp⟩, ⟨c, ccl, cdd, ccs, vs, file, tf, rfl, hcda, hvs, hP.1⟩, hP.2, ⟨cc, cl, cld, csl, by show List.lookup ("__class__" : Str) [(("__class__" : Str), cc)] = some cc; simp [List.lookup], hcc⟩, hS.cls, hS.sub, hg, hS.any, hS.meth, hS.ty, hS.fi, nm⟩
end
end L2
namespace Mw
open PySem PySem.Spec PyProof.Rows L2
open Evl (Ex)
section
variable {α β γ δ κ ρ : Type} {ra : Rp α} {rb : Rp β} {rc : Rp κ} {rr : Rp ρ} {g : Gp δ} {σ : L2.St} {F H : Hp} {cs : Cs} {ta tk : TA} {te : TE} {K : PySem.W.Frag} {L : List PySem.Str} {W : WX} {c : Act} {D : Ends} {tz : TS}
end
end Mw
namespace Hm
open PySem PySem.Spec PyProof.Rows L2 He
/-! the hook with defs whose closure is the cell of their class -/
def cellB (K : PySem.W.Frag) (cc D : Addr) : Bool := match K.lookup cc with
  | some ⟨_, _, .cell (some (.ref E)), _⟩ => decide (E = D)
  | _ => false
def fileB (K : PySem.W.Frag) (c : Addr) (file : Str) : Bool := match K.lookup c with
  | some ⟨_, _, .fields vs, _⟩ => (match (vs[2]? : Option Value) with
    | some (.str fl _) => decide (fl = file)
    | _ => false)
  | _ => false
abbrev DefS : Type := DefM × (PySem.W.Frag → Addr) × Str
def fnS (K : PySem.W.Frag) (a : Addr) : FnW := match K.lookup a with
  | some ⟨_, _, .func fd, _⟩ => some (fd.name, fd.qualname, fd.params, fd.body, fd.scope, fd.globals, [], fd.builtins)
  | _ => none
def okS (K : PySem.W.Frag) (d : DefS) : Bool := PySem.W.keepIn K (.ref (d.1.at_ K)) && (match K.lookup (d.1.at_ K) with
  | some ⟨_, _, .func fd, _⟩ => (match fd.closure, fd.code with
    | [(y, cc)], .ref c => decide (y = "__class__") && (PySem.W.codeIn K (.ref c) d.1.qual && (dflB K fd.defaults [] && (kwdB K fd.kwdefaults [] && (cellB K cc (d.2.1 K) && fileB K c d.2.2))))
    | _, _ => false)
  | _ => false)
def obsW (fa : List Fc) (fn : List DefV) (fs : List DefS) (K : PySem.W.Frag) : AlD := ((fa.all fun f => f K) && ((fn.all fun d => okV K d) && fs.all fun d => okS K d), (fn.map fun d => fnM K (d.1.at_ K)) ++ fs.map fun d => fnS K (d.1.at_ K))
def valW (fn : List DefV) (fs : List DefS) : AlD := (true, (fn.map fun d => d.1.val) ++ fs.map fun d => d.1.val)
def SaysW (fa : List Fc) (fn : List DefV) (fs : List DefS) (K : PySem.W.Frag) : Prop := obsW fa fn fs K = valW fn fs
section
variable {fa : List Fc} {fn : List DefV} {fs : List DefS} {K : PySem.W.Frag}
theorem SaysW.ok3 (c : SaysW fa fn fs K) : (fa.all fun f => f K) = true ∧ (fn.all fun d => okV K d) = true ∧ (fs.all fun d => okS K d) = true := by
  obtain ⟨c1, c2⟩ := ba (show ((fa.all fun f => f K) && ((fn.all fun d => okV K d) && fs.all fun d => okS K d)) = true from congrArg (fun z : AlD => z.1) c)
  exact ⟨c1, ba c2⟩
theorem SaysW.list (c : SaysW fa fn fs K) : (fn.map fun d => fnM K (d.1.at_ K)) = (fn.map fun d => d.1.val) ∧ (fs.map fun d => fnS K (d.1.at_ K)) = fs.map fun d => d.1.val := by
  have e : (fn.map fun d => fnM K (d.1.at_ K)) ++ (fs.map fun d => fnS K (d.1.at_ K)) = (fn.map fun d => d.1.val) ++ fs.map fun d => d.1.val := congrArg (fun z : AlD => z.2) c
  exact List.append_inj e (by simp)
theorem SaysW.fact (c : SaysW fa fn fs K) (i : Nat) {f : Fc} (h : fa[i]? = some f := by rfl) : f K = true := List.all_eq_true.mp c.ok3.1 f (List.mem_of_getElem? h)
theorem SaysW.def_ (c : SaysW fa fn fs K) (i : Nat) {d : DefM} {dv : List V} (h : fn[i]? = some (d, dv) := by rfl) : ∃ fd, FunD K d.name d.qual d.params d.body d.scope dv [] (d.at_ K) fd := by
  have e2 : (fn.map fun d => fnM K (d.1.at_ K))[i]? = (fn.map fun d => d.1.val)[i]? := by rw [c.list.1]
  rw [List.getElem?_map, List.getElem?_map, h] at e2
  exact funDV (d := (d, dv)) (Option.some.inj e2) (List.all_eq_true.mp c.ok3.2.1 (d, dv) (List.mem_of_getElem? h))
end
end Hm
namespace L2
open PySem PySem.Spec PySem.Calls PyProof.Rows NdefX ClX
section
variable {K : PySem.W.Frag} {x qual : Str} {params : Arguments} {body : List Stmt} {scope : Scope} {D : Addr} {file : Str} {f : Addr} {fd : FuncData} {ps ks : List Str} {n : Nat} {g : List Value → List Value → List Value} {gV : List V → List V → List V}
theorem FunS.bindsN (F : FunS K x qual params body scope D file f fd)
    (h : ∀ (cl : List (Str × Addr)) (kV doc pm : Value) (an : Option Addr) (cdv ct : Value) (us : List Value), us.length = ps.length → bindArgs (PySem.W.fnX x qual params body scope cl .none kV doc pm an cdv ct) ⟨us, []⟩ = pure (ps.zip us)) : Binds K fd ps [] := by
  obtain ⟨oc, od, dV, kV, doc, pm, an, c, ct, osl, cc, cl, cld, csl, ccl, cdd, ccs, vs, tf, rfl, lk, hcd, hD, _, hcc, hcda, hvs⟩ := F.ex
  rcases hD with ⟨_, rfl⟩ | ⟨e, _⟩
  · exact .all (h _ kV doc pm an _ ct)
  · exact absurd rfl e
end
end L2
namespace Mw
open PySem PySem.Spec PyProof.Rows L2
/-- the __init__ that super() finds -/
structure CalSX (P : Program) (w : World) (K : PySem.W.Frag) (mg : PySem.Str → Option Value) (base : Heap) (k : Nat) (f : Addr) (ps : List PySem.Str) (sp : Sp) (X : FuncData → Prop) : Prop where
  ex : ∃ fd, FnOk P w K mg base (L2.CX P w) k f fd ps sp ∧ Binds K fd ps [] ∧ X fd
section
variable {α β γ δ κ ρ : Type} {ra : Rp α} {rb : Rp β} {rc : Rp κ} {rr : Rp ρ} {g : Gp δ} {σ : L2.St} {F H : Hp} {cs : Cs} {ta tk : TA} {te : TE} {K : PySem.W.Frag} {L : List PySem.Str} {W : WX} {c : Act} {D : Ends} {tz : TS}
end
end Mw
namespace Hm
open PySem PySem.Spec PyProof.Rows L2 He
end Hm

set_option maxHeartbeats 2000000
/-! Wv: (a, e) in [(b, w), ..], e perhaps an exception; the pairs differ at the first place. -/
namespace PySem.SeqAt
open AutoSeq1 (wpAny_loadPart')
open MeetsSeq MeetsSeq2 MeetsSeq3 SeqRoads2
end PySem.SeqAt
namespace L2
open PySem PySem.Spec PyProof.Rows
section
variable {X : Cx}
end
end L2
namespace Mw
open PySem L2 PyProof
open Evl (Ex)
section
variable {K : PySem.W.Frag} {L : List PySem.Str} {α : Type} [DecidableEq α] [Sk α] {ra : Rp α} {σ : L2.St} {F H : Hp} {cs : Cs} {te tb : TE}
end
end Mw
namespace Mw
open PySem L2 PyProof
section
variable {δ ρ ω γ B : Type} {get : γ → B} {put : γ → B → γ} {s : γ}
end
end Mw

set_option maxHeartbeats 2000000
/-! Wx: a value of another kind == an own object: turned round. -/
namespace PySem.W
open PySem.SeqAt MeetsSeq
open AutoSeq1 (wpAny_loadPart')
section
variable {prog : Program} {w : World} {A : Around} {E : Value → Shared → Prop} {s : Shared} {K : Frag} {x C l : Addr} {ox : Obj} {od : Option Obj} {Q : Value → Shared → Prop}
end
end PySem.W
namespace Mw
open PySem L2 PySem.Spec PyProof.Rows
open Evl (Ex)
/-- a value of a built-in kind -/
inductive Aln (H : Hp) : V → Prop
  | non : Aln H .non
  | bl (b : Bool) : Aln H (.bl b)
  | int (i : Int) : Aln H (.int i)
  | str (x : Str) : Aln H (.str x)
  | lst {p : Addr} {xs : List V} (h : H p = some (.lst xs)) : Aln H (.ref p)
  | tup {p : Addr} {xs : List V} (h : H p = some (.tup xs)) : Aln H (.ref p)
  | dic {p : Addr} {kvs : List (List Key × V)} (h : H p = some (.dT kvs)) : Aln H (.ref p)
theorem Aln.up {H H' : Hp} {v : V} (e : Ex H H') (h : Aln H v) : Aln H' v := by
  cases h with
  | non => exact .non
  | bl b => exact .bl b
  | int i => exact .int i
  | str x => exact .str x
  | lst h => exact .lst (e _ _ h)
  | tup h => exact .tup (e _ _ h)
  | dic h => exact .dic (e _ _ h)
def KT : List String := ["NoneType", "bool", "int", "str", "list", "tuple", "dict"]
theorem Aln.ty {K : PySem.W.Frag} {H : Hp} {v : V} (h : Aln H v) : ∃ T ∈ KT, TyX K H v (.type T) := by
  cases h with
  | non => exact ⟨"NoneType", by simp [KT], .base .non⟩
  | bl b => exact ⟨"bool", by simp [KT], .base (.bl _)⟩
  | int i => exact ⟨"int", by simp [KT], .base (.int _)⟩
  | str x => exact ⟨"str", by simp [KT], .base (.str _)⟩
  | lst h => exact ⟨"list", by simp [KT], .base (.lst h)⟩
  | tup h => exact ⟨"tuple", by simp [KT], .base (.tup h)⟩
  | dic h => exact ⟨"dict", by simp [KT], .base (.dT h)⟩
/-- what the text says of the class and the built-in kinds -/
structure RevC (K : PySem.W.Frag) (C : Addr) : Prop where
  no : ∀ T ∈ KT, PySem.W.subIn K (.ref C) (.type T) = some false
  kit : ∀ T ∈ KT, PySem.W.kitOne K (.type T) (.ref C) = some false
section
variable {X : Cx} {CX : CXT} {k : Nat} {C g : Addr} {fd : FuncData} {ps : List PySem.Str} {sp : Sp} {dvs : List V} {ds : List Value} {E : XK}
end
section
variable {ω α β : Type} {ro : Rp ω} {ra : Rp α} {rb : Rp β} {C : Addr} {E : XK} {K : PySem.W.Frag} {σ : L2.St} {F : Hp} {cs : Cs} {te : TE}
end
end Mw
namespace Mw
open PySem L2 PySem.Spec PyProof.Rows
open Evl (Ex)
end Mw
namespace Mw
open PySem L2 PySem.Spec PyProof.Rows
open Evl (Ex)
section
variable {prog : Program} {w : World} {A : Around} {E : Value → Shared → Prop} {s : Shared}
end
section
variable {K : PySem.W.Frag} {σ : L2.St} {F : Hp} {cs : Cs}
end
end Mw
namespace Hm
open PySem PySem.Spec PyProof.Rows L2 He Mw
end Hm

set_option maxHeartbeats 2000000
/-! Wy: a dict of lists that grow: x = d.setdefault(k, []); x.append(..); list(d.values()). -/
namespace Mw
open PySem L2 PySem.Spec PyProof.Rows
open Evl (Ex)
section
variable {β : Type} {rb : Rp β}
def gA (T : List (List Int × Addr × List β)) : List (List Int × List β) := T.map fun t => (t.1, t.2.2)
end
section
variable {α β γ : Type} {ra : Rp α} {rb : Rp β} {c : Act} {D : Ends} {σ : L2.St} {F H : Hp} {cs : Cs} {K : PySem.W.Frag} {ty te : TE} {p : Addr}
end
end Mw

set_option maxHeartbeats 2000000
/-! Wz: x = [y, f(.., y)]: y a new cell that is lent to f, then told by x. -/
namespace Mw
open PySem L2 PySem.Spec PyProof.Rows
open Evl (Ex)
section
variable {α β γ : Type} {ra : Rp α} {rb : Rp β} {σ : L2.St} {F H : Hp} {cs cs0 : Cs} {cs' : γ → Cs} {ta tb : TE} {tz : TS} {D : Ends} {c : Act}
end
end Mw

set_option maxHeartbeats 2000000
/-! Xa: dicts that rest locked: they are read and walked as values. -/
namespace L2
open PySem PySem.Spec PyProof.Rows
section
variable {X : Cx}
end
end L2
namespace Mw
open PySem L2 PySem.Spec PyProof.Rows
open Evl (Ex)
section
variable {α β γ : Type} {ra : Rp α} {rb : Rp β} {σ : L2.St} {F H : Hp} {cs : Cs} {K : PySem.W.Frag} {te td ty tk : TE} {tz : TS} {D : Ends} {c : Act} {d : α} {m : Option α} {md : Option (List (List Int × β))} {mk : Option (List Int)}
theorem DGet.z {H : Hp} {a b : Addr} {od : Obj} {kvs : List (List L2.Key × V)} {k : List L2.Key} (e : H a = some (.frz od (.dT kvs))) (hb : H b = some (.tup (k.map kV))) : DGet H a (.ref b) (valV kvs k) := .inr ⟨kvs, k, b, .inr ⟨od, e⟩, rfl, hb, rfl⟩
end
end Mw

set_option maxHeartbeats 2000000
namespace L2
open PySem PySem.Spec PyProof.Rows
variable {K : PySem.W.Frag}
/-! `None in pair`, the pair a tuple of two values that may be None -/
section
variable {X : Cx}
end
end L2
namespace Mw
open PySem L2 PySem.Spec PyProof.Rows PyProof RZ PySem.SeqAt
open Evl (Ex)
variable {K : PySem.W.Frag}
section
variable {α γ δ : Type} {ra : Rp α} {rb : Rp γ} {σ : L2.St} {F H : Hp} {cs : Cs} {te ti : TE} {D : Ends} {c : Act} {tz : TS}
end
end Mw

set_option maxHeartbeats 2000000
/-! Xc: lists that were handed to a call, are changed behind it and never read again (junk); errors whose value is new. -/
namespace Mw
open PySem L2
open Evl (Ex)
open He (ga ma)
section
variable {α β γ δ ρ ω : Type} {ra : Rp α} {rb : Rp β} {rr : Rp ρ} {ro : Rp ω} {g : Gp δ} {σ : L2.St} {F H FS HS : Hp} {cs csS : Cs} {K : PySem.W.Frag} {L : List PySem.Str} {mg : PySem.Str → Option Value} {W : WX} {te ti tr : TE} {ta : TA} {tz : TS} {D : Ends} {c : Act} {d : α} {m : Option α}
/-! ### lists of new lists -/
/-! ### errors whose value is new -/
/-! ### junk -/
open Classical in
end
end Mw

set_option maxHeartbeats 2000000
/-! Xd: windows whose list is set back: an except suite that ends in a bare raise; objects that are taken out of the frozen part. -/
namespace L2
open PySem PySem.Spec PyProof.Rows
section
variable {X : Cx} {pins : List (Addr × Obj)} {σ : St} {H : Hp} {s : Shared}
end
section
variable {X : Cx} {x : Str} {c : Value} {body : List Stmt} {b₀ : Stmt} {np pos pos' pr : Pos} {tb : WX → TS} {ts : TS} {Wout : WX}
end
end L2
namespace Mw
open PySem PySem.Spec PyProof.Rows L2
open Evl (Ex)
open He (ga ma)
/-! ### objects taken out of the frozen part -/
/-- the same but at p -/
def ExP (p : Addr) (F F' : Hp) : Prop := ∀ b o, b ≠ p → F b = some o → F' b = some o
theorem ExP.refl {p : Addr} {F : Hp} : ExP p F F := fun _ _ _ h => h
theorem ExP.of {p : Addr} {F F' : Hp} (e : Ex F F') : ExP p F F' := fun _ _ _ h => e _ _ h
theorem ExP.trans {p : Addr} {F F1 F2 : Hp} (a : ExP p F F1) (b : ExP p F1 F2) : ExP p F F2 := fun x o n h => b x o n (a x o n h)
theorem hole_ne {F : Hp} {p b : Addr} (h : b ≠ p) : hole F p b = F b := by unfold hole; rw [if_neg h]
theorem ExP.hole {p : Addr} {F : Hp} : ExP p F (hole F p) := fun b o n h => by rw [hole_ne n]; exact h
theorem ExP.ex {p : Addr} {F F' : Hp} (e : ExP p F F') (h : F p = none) : Ex F F' := fun b o hb => e b o (fun z => by subst z; rw [h] at hb; cases hb) hb
/-- p is an own object -/
def InsA (F : Hp) (p : Addr) : Prop := ∃ C dx fs, F p = some (.ins C dx fs)
/-- what holds no own object -/
class NI {α : Type} (ra : Rp α) : Prop where
  t : ∀ {p : Addr} {F F' : Hp} {v : V} {d : α}, InsA F p → ExP p F F' → ra.r F v d → ra.r F' v d
section
variable {α β γ : Type} {ra : Rp α} {rb : Rp β} {rc : Rp γ} {K : PySem.W.Frag} {L : List PySem.Str}
theorem ins_ne {F : Hp} {p b : Addr} {o : HO} (h : InsA F p) (hb : F b = some o) (ho : ∀ C dx fs, o ≠ .ins C dx fs) : b ≠ p := fun z => by
  obtain ⟨C, dx, fs, e⟩ := h
  subst z
  rw [hb] at e
  exact ho _ _ _ (Option.some.inj e)
instance ni_tp [tp : TP ra] : NI ra := ⟨fun h e r => tp.t (fun a vs ha => e a _ (ins_ne h ha fun _ _ _ z => by cases z) ha) r⟩
theorem Rs.ni [ni : NI ra] {p : Addr} {F F' : Hp} (h : InsA F p) (e : ExP p F F') : ∀ {vs : List V} {ds : List α}, Rs ra F vs ds → Rs ra F' vs ds
  | _, _, .nil => .nil
  | _, _, .cons r t => .cons (ni.t h e r) (Rs.ni h e t)
instance ni_lst [ni : NI ra] : NI (rLst ra) := ⟨fun h e ⟨a, vs, h1, h2, h3⟩ => ⟨a, vs, h1, e _ _ (ins_ne h h2 fun _ _ _ z => by cases z) h2, Rs.ni h e h3⟩⟩
instance ni_opt [ni : NI ra] : NI (rOpt ra) := ⟨fun {_ _ _ _ d} h e r => match d, r with
  | none, r => r
  | some _, r => ⟨r.1, ni.t h e r.2⟩⟩
instance ni_p2 [na : NI ra] [nb : NI rb] : NI (rP2 K ra rb) := ⟨fun h e ⟨a, v1, v2, h1, h2, h3, h4⟩ => ⟨a, v1, v2, h1, e _ _ (ins_ne h h2 fun _ _ _ z => by cases z) h2, na.t h e h3, nb.t h e h4⟩⟩
instance ni_pay : NI (rPay K) := ⟨fun {_ _ _ _ d} h e r => match d, r with
  | .int _, r => r
  | .tup l, r => NI.t (ra := rTup K rInt) (d := l) h e r
  | .str _, r => r
  | .rows l, r => NI.t (ra := rLst (rLst rInt)) (d := l) h e r⟩
instance ni_exc : NI (rExc K L) := ⟨fun h e ⟨h0, a, dd, fs, pv, h1, h2, h3, h4, h5⟩ => ⟨h0, a, dd, fs, pv, h1, e _ _ (ins_ne h h2 fun _ _ _ z => by unfold exT at z; cases z) h2, e _ _ (ins_ne h h3 fun _ _ _ z => by cases z) h3, h4, NI.t h e h5⟩⟩
theorem rEr.ni {p : Addr} {F F' : Hp} {cls : Value} {d : Option Addr} {er : Er} (h : InsA F p) (e : ExP p F F') (r : rEr K L F cls d er) : rEr K L F' cls d er := by
  obtain ⟨h0, dd, fs, pv, h1, h2, h3, h4, h5⟩ := r
  exact ⟨h0, dd, fs, pv, h1, h2, e _ _ (ins_ne h h3 fun _ _ _ z => by cases z) h3, h4, NI.t h e h5⟩
/-- how a frozen object with a list of its own and the object as a cell go together -/
structure WinR (C : Addr) {ω : Type} (ro : Addr → Rp ω) (cw : Addr → ω → Cp) : Prop where
  to : ∀ {q : Addr} {F : Hp} {v : V} {w : ω}, (ro q).r F v w → ∃ p dx fs, v = .ref p ∧ F p = some (.ins C dx fs) ∧ (cw q w).p (hole F p) (.ins C dx fs)
  fro : ∀ {q : Addr} {F F' : Hp} {p : Addr} {o : HO} {w : ω}, (cw q w).p F o → Ex F F' → F' p = some o → (ro q).r F' (.ref p) w
  ins : ∀ {q : Addr} {F : Hp} {o : HO} {w : ω}, (cw q w).p F o → ∃ dx fs, o = .ins C dx fs
end
section
variable {c : Act} {F H : Hp} {cs : Cs} {p : Addr} {x : Cp} {o : HO}
end
section
variable {α β γ δ ρ ω : Type} {ra : Rp α} {rb : Rp β} {rr : Rp ρ} {g : Gp δ} {σ : L2.St} {F H : Hp} {cs : Cs} {ta : TA} {te tb : TE} {K : PySem.W.Frag} {L : List PySem.Str} {W : WX} {c : Act} {D : Ends} {tz : TS} {C : Addr} {ro : Addr → Rp ω} {cw : Addr → ω → Cp}
/-! ### promises of what may give the object another list -/
/-! ### such objects as values, two at once -/
end
/-! ### for, a turn that may leave, the cells told by the invariant -/
section
variable {α γ ρ : Type} {ra : Rp α} {σ : L2.St} {F H : Hp} {cs : Cs} {wi : TI} {g : TG} {tb : TS} {D : Ends} {c : Act} {m : Option (List α)} {ds : List α}
end
end Mw

set_option maxHeartbeats 2000000
/-! Xe: zip of a tuple and a list. -/
namespace Mw
open PySem PySem.Spec PyProof.Rows L2
open Evl (Ex)
section
variable {α β γ : Type} {ra : Rp α} {rb : Rp β} {rc : Rp γ} {σ : L2.St} {F H : Hp} {cs : Cs} {K : PySem.W.Frag} {ta tb : TE}
end
section
variable {α β γ δ ρ ω : Type} {rb : Rp β} {rr : Rp ρ} {g : Gp δ} {σ : L2.St} {F H : Hp} {cs : Cs} {ta : TA} {te : TE} {ro : Addr → Rp ω}
end
section
variable {α β γ δ ρ ω : Type} {ra : Rp α} {rb : Rp β} {rr : Rp ρ} {g : Gp δ} {σ : L2.St} {F H : Hp} {cs : Cs} {ta : TA} {te tb : TE} {K : PySem.W.Frag} {L : List PySem.Str} {W : WX} {c : Act} {D : Ends} {tz : TS} {C : Addr} {ro : Addr → Rp ω} {cw : Addr → ω → Cp}
theorem rd_ni {p a : Addr} {F F' : Hp} {o : HO} (h : InsA F p) (e : ExP p F F') (ho : ∀ C dx fs, o ≠ .ins C dx fs) (r : Rd F a o) : Rd F' a o := by
  rcases r with r | ⟨u, r⟩
  · exact .inl (e _ _ (ins_ne h r ho) r)
  · exact .inr ⟨u, e _ _ (ins_ne h r fun _ _ _ z => by cases z) r⟩
instance ni_lsW [na : NI ra] : NI (rLsW K ra) := ⟨fun h e ⟨a, vs, h1, h2, h3⟩ => ⟨a, vs, h1, h2.imp (fun z => rd_ni h e (fun _ _ _ z => by cases z) z) id, Rs.ni h e h3⟩⟩
end
end Mw

set_option maxHeartbeats 2000000
/-! Ya: texts that are read: len, items, parts, split, startswith, one sign in a text, int of a text, a walk over the signs. -/
namespace Mw
open PySem L2
open Evl (Ex)
abbrev rLenS : List V → Hp → VK → Prop := fun xs H Q => ∃ z : PySem.Str, xs = [.str z] ∧ z.length ≤ sizeLine ∧ Q (.int z.length) H
def lenS (z : PySem.Str) : Option Int := if z.length ≤ sizeLine then some (z.length : Int) else none
theorem vc_lenS : VC rLenS rStr rInt lenS := fun c F cs H v a d k r q Q hQ => by
  cases r
  unfold lenS at q
  split at q
  · rename_i h
    cases q
    exact ⟨a, rfl, h, hQ _ F H (Ex.refl _) k rfl⟩
  · cases q
abbrev rIntS : List V → Hp → VK → Prop := fun xs H Q => ∃ (a : PySem.Str) (n : Int), xs = [.str a] ∧ PySem.intText? a = some n ∧ a.length ≤ 640 ∧ Q (.int n) H
def intS (z : PySem.Str) : Option Int := if z.length ≤ 640 then PySem.intText? z else none
theorem vc_intS : VC rIntS rStr rInt intS := fun c F cs H v a d k r q Q hQ => by
  cases r
  unfold intS at q
  split at q
  · rename_i h
    exact ⟨a, d, rfl, q, h, hQ _ F H (Ex.refl _) k rfl⟩
  · cases q
/-- one sign as a text -/
def sgn (c : Nat) : PySem.Str := ⟨#[c]⟩
def ixS (z : PySem.Str) (i : Int) : Option PySem.Str := if z.length ≤ sizeLine then (atI z.cps.toList i).map sgn else none
theorem vo_ixS : VO rIxS rStr rInt rStr ixS := fun c F cs H x y a b d k r1 r2 q Q hQ => by
  cases r1
  cases r2
  unfold ixS at q
  split at q
  · rename_i h
    cases g : atI a.cps.toList b with
    | none => rw [g] at q; cases q
    | some n =>
      rw [g] at q
      cases q
      exact ⟨a, b, n, rfl, rfl, h, g, hQ _ F H (Ex.refl _) k rfl⟩
  · cases q
def hasNotS (c z : PySem.Str) : Option Bool := match c.cps.toList with | [n] => some (!decide (n ∈ z.cps.toList)) | _ => none
theorem sgn_of {c : PySem.Str} {n : Nat} (h : c.cps.toList = [n]) : c = ⟨#[n]⟩ := by
  cases c with
  | mk a =>
    cases a with
    | mk l =>
      have h : l = [n] := h
      subst h
      rfl
theorem vo_notInS : VO rNotInS rStr rStr rBool hasNotS := fun c F cs H x y a b d k r1 r2 q Q hQ => by
  cases r1
  cases r2
  unfold hasNotS at q
  split at q
  · rename_i n h
    cases q
    exact ⟨n, b, by rw [sgn_of h], rfl, hQ _ F H (Ex.refl _) k rfl⟩
  · cases q
section
variable {K : PySem.W.Frag} {σ : L2.St} {F : Hp} {cs : Cs} {to te t ta : TE} {m1 m2 m : Option PySem.Str}
def cutG (z : PySem.Str) (lo hi : Option Int) : Option PySem.Str := if z.length ≤ sizeLine then some (cutS z lo hi) else none
def oCutS (m : Option PySem.Str) (lo hi : Option (Option Int)) : Option PySem.Str := m.bind fun l => lo.bind fun a => hi.bind fun b => cutG l a b
theorem em_sliceS {tl th : L2.TO} {lo hi : Option (Option Int)} (ha : EM rStr ta σ F cs m) (h1 : EO tl σ F cs lo) (h2 : EO th σ F cs hi) : EM rStr (tSl rSlS ta tl th) σ F cs (oCutS m lo hi) := fun d q c F1 H e k Q hQ => by
  obtain ⟨l, q1, q⟩ := bind_some q
  obtain ⟨a, q2, q⟩ := bind_some q
  obtain ⟨b, q3, q⟩ := bind_some q
  unfold cutG at q
  split at q
  · rename_i g
    cases q
    refine ha l q1 c F1 H e k _ fun v F2 H2 e2 k2 r2 => h1 a q2 c F2 H2 (e.trans e2) k2 _ fun F3 H3 e3 k3 => h2 b q3 c F3 H3 ((e.trans e2).trans e3) k3 _ fun F4 H4 e4 k4 => ?_
    cases r2
    exact ⟨l, rfl, g, hQ _ F4 H4 ((e2.trans e3).trans e4) k4 rfl⟩
  · cases q
abbrev rSw : V → List V → Hp → VK → Prop := fun x xs H Q => ∃ a b : PySem.Str, x = .str a ∧ xs = [.str b] ∧ Q (.bl (Txt.startswith a b)) H
theorem em_startS (h1 : EM rStr to σ F cs m1) (h2 : EM rStr te σ F cs m2) : EM rBool (tM1 rSw to te) σ F cs (o2 (fun a b => some (Txt.startswith a b)) m1 m2) := fun d q c F1 H e k Q hQ => by
  obtain ⟨a, b, q1, q2, q3⟩ := o2_some q
  cases q3
  refine h1 a q1 c F1 H e k _ fun v F2 H2 e2 k2 r2 => ?_
  cases r2
  refine ⟨⟨a, rfl⟩, h2 b q2 c F2 H2 (e.trans e2) k2 _ fun u F3 H3 e3 k3 r3 => ?_⟩
  cases r3
  exact ⟨a, b, rfl, rfl, hQ _ F3 H3 (e2.trans e3) k3 rfl⟩
abbrev rSpl : V → List V → Hp → VK → Prop := fun x xs H Q => ∃ a b : PySem.Str, x = .str a ∧ xs = [.str b] ∧ (b.length == 0) = false ∧ a.length + 2 ≤ sizeLine ∧ rNewStrs (Txt.split a b) H Q
def splitG (a b : PySem.Str) : Option (List PySem.Str) := if (b.length == 0) = false ∧ a.length + 2 ≤ sizeLine then some (Txt.split a b) else none
theorem rs_texts {F : Hp} : ∀ ys : List PySem.Str, Rs rStr F (ys.map V.str) ys
  | [] => .nil
  | _ :: ys => .cons rfl (rs_texts ys)
theorem ef_split (h1 : EM rStr to σ F cs m1) (h2 : EM rStr te σ F cs m2) : EF rStr (tM1 rSpl to te) σ F cs (o2 splitG m1 m2) := fun d q c F1 H e k Q hQ => by
  obtain ⟨a, b, q1, q2, q3⟩ := o2_some q
  unfold splitG at q3
  split at q3
  · rename_i g
    cases q3
    refine h1 a q1 c F1 H e k _ fun v F2 H2 e2 k2 r2 => ?_
    cases r2
    refine ⟨⟨a, rfl⟩, h2 b q2 c F2 H2 (e.trans e2) k2 _ fun u F3 H3 e3 k3 r3 => ?_⟩
    cases r3
    exact ⟨a, b, rfl, rfl, g.1, g.2, fun l hl => hQ l F3 _ (e2.trans e3) (k3.own hl ⟨_, rfl, rs_texts _⟩) (k3.dom l hl)⟩
  · cases q3
/-! a walk over the signs -/
def signs (z : PySem.Str) : List PySem.Str := z.cps.toList.map sgn
theorem goes_str {x : PySem.Str} : Goes (Its x) F rStr (signs x) where
  go := fun i d hd c F' cs H e k => by
    unfold signs at hd
    rw [List.getElem?_map] at hd
    cases g : x.cps.toList[i]? with
    | none => rw [g] at hd; cases hd
    | some n =>
      rw [g] at hd
      cases hd
      have g2 : x.cps[i]? = some n := by rw [← Array.getElem?_toList]; exact g
      refine ⟨(Array.getElem?_eq_some_iff.mp g2).1, fun y H' z => ?_⟩
      obtain ⟨z1, m, z2, z3⟩ := z
      subst z1
      rw [g2] at z2
      cases z2
      exact ⟨F', Ex.refl _, fun _ _ k => k, z3⟩
  stop := fun c F' cs H e k => by
    show x.cps.size ≤ _
    rw [signs, List.length_map, Array.length_toList]
    exact Nat.le_refl _
theorem ei_str (h : EM rStr te σ F cs m) : EI rStr (iStr te) σ F cs (m.map signs) := fun ds q c F1 H e k R hR => by
  cases m with
  | none => cases q
  | some x =>
    cases q
    refine h x rfl c F1 H e k _ fun v F2 H2 e2 k2 r2 => ?_
    cases r2
    exact ⟨x, rfl, hR _ F2 H2 e2 k2 goes_str⟩
end
/-- a module's text as a value -/
theorem pe_globS {X : Cx} {x s : PySem.Str} {pos : Pos} (hg : Gl X x) (h : ∃ t, X.mg x = some (.str s t)) (hd : (x == ("__debug__" : PySem.Str)) = false := by decide) : PE X (.Name x pos) (tC (.str s)) := by
  obtain ⟨t, h⟩ := h
  exact pe_glob hg h ⟨t, rfl⟩ hd
/-! places: a >= b -/
/-- what the kit's rule tells of two tuples of whole numbers -/
def geL (a b : List Int) : Bool := Ob.lexAt (fun j => decide (a.getD j 0 = b.getD j 0)) (fun j => decide (b.getD j 0 ≤ a.getD j 0)) (decide (b.length ≤ a.length)) 0 (min a.length b.length)
def rGeT (K : PySem.W.Frag) : R2 := fun x y H Q => ∃ (p q : Addr) (a b : List Int), x = .ref p ∧ y = .ref q ∧ SqT K H p (a.map V.int) ∧ SqT K H q (b.map V.int) ∧ Q (.bl (geL a b)) H
theorem op_geT {X : Cx} (hu : X.A.units < cLine) : OpR X (compareOp .GtE) (rGeT X.K) := by
  intro pins s σ H x y v u Q I rx ry h
  obtain ⟨p, q, a, b, rfl, rfl, hp, hq, h⟩ := h
  cases rx
  cases ry
  obtain ⟨l1, v1, t1, _⟩ := I.tuple hp
  obtain ⟨l2, v2, t2, _⟩ := I.tuple hq
  have w1 : PyProof.Rows.IntsAre l1 a := Vals.ints v1
  have w2 : PyProof.Rows.IntsAre l2 b := Vals.ints v2
  have n1 : l1.toArray.size = a.length := by rw [List.size_toArray]; exact w1.length
  have n2 : l2.toArray.size = b.length := by rw [List.size_toArray]; exact w2.length
  have c1 : ∀ j (g : j < l1.toArray.size), ∃ t, l1.toArray[j] = .int (a.getD j 0) t := fun j g => PyProof.Rows.IntsAre.int_at w1 _ _ (by simp at g; simp [g])
  have c2 : ∀ j (g : j < l2.toArray.size), ∃ t, l2.toArray[j] = .int (b.getD j 0) t := fun j g => PyProof.Rows.IntsAre.int_at w2 _ _ (by simp at g; simp [g])
  have R := Ob.RcOp.tuples_ge (A := X.A) (s := s) (e := fun j => decide (a.getD j 0 = b.getD j 0)) (r := fun j => decide (b.getD j 0 ≤ a.getD j 0)) t1 t2 hu
    (fun j g1 g2 => by
      obtain ⟨t, e1⟩ := c1 j g1
      obtain ⟨t', e2⟩ := c2 j g2
      rw [e1, e2, show decide (a.getD j 0 = b.getD j 0) = (a.getD j 0 == b.getD j 0) from by cases g : (a.getD j 0 == b.getD j 0) <;> simp_all]
      exact SeqAt.EqAt.int_int _ _ _ _)
    (fun j g1 g2 _ => by
      obtain ⟨t, e1⟩ := c1 j g1
      obtain ⟨t', e2⟩ := c2 j g2
      rw [e1, e2]
      exact Ob.RcOp.ge_int _ _ _ _)
  rw [n1, n2] at R
  have z : wpAny (model X.prog X.w) X.A (compareOp .GtE (.ref p) (.ref q)) (EP X pins σ Q) X.xe s := R X.prog X.w X.xe (EP X pins σ Q) ⟨.bl _, H, I, rfl, h⟩
  exact z
theorem rs_ints' {F : Hp} : ∀ {vs : List V} {ys : List Int}, Rs rInt F vs ys → vs = ys.map V.int
  | [], [], .nil => rfl
  | v :: vs, y :: ys, .cons h t => by
    have h : v = .int y := h
    rw [List.map_cons, rs_ints' t, h]
theorem vo_geT {K : PySem.W.Frag} : VO (rGeT K) (rTup K rInt) (rTup K rInt) rBool (fun a b => some (geL a b)) := fun c F cs H x y a b d k r1 r2 q Q hQ => by
  cases q
  obtain ⟨p, vs, rfl, h1, h2⟩ := r1
  obtain ⟨p', vs', rfl, h3, h4⟩ := r2
  have := rs_ints' h2
  subst this
  have := rs_ints' h4
  subst this
  exact ⟨p, p', a, b, rfl, rfl, SqT.of (k.ex _ _ h1), SqT.of (k.ex _ _ h3), hQ _ F H (Ex.refl _) k rfl⟩
theorem op_geTK {X : Cx} (K : PySem.W.Frag) (h : X.K = K) (hu : X.A.units + 65 < cLine) : OpR X (compareOp .GtE) (rGeT K) := h ▸ op_geT (by omega)
/-! how often a text stands in a list of texts -/
def cntT (l : List PySem.Str) (k : PySem.Str) : Int := PySem.Spec.countIn (.str k) (l.map PyData.str)
def rCntT (K : PySem.W.Frag) : V → List V → Hp → VK → Prop := fun x xs H Q => ∃ (p : Addr) (l : List PySem.Str) (k : PySem.Str), x = .ref p ∧ xs = [.str k] ∧ SqL K H p (l.map V.str) ∧ Q (.int (cntT l k)) H
theorem mt_cntT {X : Cx} : MtR X "list.count" (rCntT X.K) := by
  intro pins s σ H x xs v us Q I rx rxs h
  obtain ⟨p, l, k, rfl, rfl, hs, q⟩ := h
  cases rx
  obtain ⟨u, rfl, ru⟩ := rxs.one
  obtain ⟨t, rfl⟩ := ru
  obtain ⟨its, rv, ⟨o, n, ho, hc, hdn, hd⟩, hlen⟩ := I.list hs
  exact PyProof.Rows.count_list_strs (l := p) (vs := its) ⟨o, ho, hc, n, hd⟩ (strs_of_vals rv) ⟨.int _, H, I.tok _, ⟨_, rfl⟩, q⟩
theorem mt_cntTK {X : Cx} (K : PySem.W.Frag) (h : X.K = K) : MtR X "list.count" (rCntT K) := h ▸ mt_cntT
theorem em_cntT {K : PySem.W.Frag} {σ : L2.St} {F : Hp} {cs : Cs} {tl te : TE} {ma : Option PySem.Str} {ml : Option (List PySem.Str)} (hl : EL K rStr tl σ F cs ml) (h : EM rStr te σ F cs ma) : EM rInt (tBM K "list" (rCntT K) tl (tCons te tNil)) σ F cs (o2 (fun l a => some (cntT l a)) ml ma) := fun d q c F1 H e k Q hQ => by
  obtain ⟨b, a, q1, q2, q3⟩ := o2_some q
  cases q3
  refine hl b q1 c F1 H e k _ fun w F2 H2 e2 k2 r2 => ?_
  obtain ⟨p, vs, rfl, h1, h2⟩ := r2.see k2
  refine ⟨.inl ⟨rfl, _, h1⟩, h a q2 c F2 H2 (e.trans e2) k2 _ fun v F3 H3 e3 k3 r3 => ?_⟩
  obtain ⟨p', vs', ep, h3, h4⟩ := (r2.up e3).see k3
  cases ep
  cases r3
  have := rs_strs h4
  subst this
  exact ⟨p, b, a, rfl, rfl, h3, hQ _ F3 H3 (e2.trans e3) k3 rfl⟩
/-! a list whose items are values or None, none of them None -/
def allO {α : Type} : List (Option α) → Option (List α)
  | [] => some []
  | none :: _ => none
  | some a :: l => (allO l).map (a :: ·)
theorem rs_allO {α : Type} {ra : Rp α} {F : Hp} : ∀ {vs : List V} {l : List (Option α)} {d : List α}, Rs (rOpt ra) F vs l → allO l = some d → Rs ra F vs d
  | [], [], d, .nil, h => by cases h; exact .nil
  | v :: vs, none :: l, d, .cons h t, e => by cases e
  | v :: vs, some a :: l, d, .cons h t, e => by
    have e : (allO l).map (a :: ·) = some d := e
    obtain ⟨d', e1, e2⟩ := Option.map_eq_some_iff.mp e
    subst e2
    exact .cons h.2 (rs_allO t e1)
theorem em_allSL {α : Type} {ra : Rp α} {σ : L2.St} {F : Hp} {cs : Cs} {te : TE} {m : Option (List (Option α))} (h : EM (rLst (rOpt ra)) te σ F cs m) : EM (rLst ra) te σ F cs (m.bind allO) := fun d q c F1 H e k Q hQ => by
  obtain ⟨l, q1, q2⟩ := bind_some q
  refine h l q1 c F1 H e k Q fun v F2 H2 e2 k2 r2 => hQ v F2 H2 e2 k2 ?_
  obtain ⟨a, vs, rfl, h1, h2⟩ := r2
  exact ⟨a, vs, rfl, h1, rs_allO h2 q2⟩
theorem em_allST {α : Type} {K : PySem.W.Frag} {ra : Rp α} {σ : L2.St} {F : Hp} {cs : Cs} {te : TE} {m : Option (List (Option α))} (h : EM (rTup K (rOpt ra)) te σ F cs m) : EM (rTup K ra) te σ F cs (m.bind allO) := fun d q c F1 H e k Q hQ => by
  obtain ⟨l, q1, q2⟩ := bind_some q
  refine h l q1 c F1 H e k Q fun v F2 H2 e2 k2 r2 => hQ v F2 H2 e2 k2 ?_
  obtain ⟨a, vs, rfl, h1, h2⟩ := r2
  exact ⟨a, vs, rfl, h1, rs_allO h2 q2⟩
/-! the value of a call that may raise, read as one of two kinds -/
theorem emx_map {α β : Type} {ra : Rp α} {rb : Rp β} {K : PySem.W.Frag} {L : List PySem.Str} {W : WX} {te : TE} {σ : L2.St} {F : Hp} {cs : Cs} {m : Option (Except Er α)} {f : α → β} (hf : ∀ F v a, ra.r F v a → rb.r F v (f a)) (h : EMX K L W ra te σ F cs m) :
    EMX K L W rb te σ F cs (m.map (Except.map f)) := fun d q c F1 H e k Q hQ hE => by
  obtain ⟨d', q1, q2⟩ := Option.map_eq_some_iff.mp q
  subst q2
  refine h d' q1 c F1 H e k Q (fun x ex v F2 H2 e2 k2 r2 => ?_) (fun er ee cls dd F2 H2 e2 k2 r2 => ?_)
  · subst ex
    exact hQ _ rfl v F2 H2 e2 k2 (hf _ _ _ r2)
  · subst ee
    exact hE er rfl cls dd F2 H2 e2 k2 r2
theorem is_tupC {α : Type} {ra : Rp α} {K : PySem.W.Frag} {C : Addr} (k : KitD K C) : IsT K (rTup K ra) (.ref C) fun _ => false := fun F H v a e r => by
  obtain ⟨p, vs, rfl, h1, _⟩ := r
  exact ⟨_, .base (.tup (e _ _ h1)), k.no "tuple" (by simp)⟩
/-! one of two kinds, told as data -/
theorem dat_alt {α β : Type} {ra : Rp α} {rb : Rp β} {K : PySem.W.Frag} {f : α → PyData} {g : β → PyData} (hf : ∀ (F : Hp) v x, ra.r F v x → (rDat K).r F v (f x)) (hg : ∀ (F : Hp) v x, rb.r F v x → (rDat K).r F v (g x)) : ∀ (F : Hp) v x, (rAlt ra rb).r F v x → (rDat K).r F v (Sum.elim f g x) := fun F v x r => by
  cases x with
  | inl a => exact hf F v a r
  | inr b => exact hg F v b r
end Mw

set_option exponentiation.threshold 20000
set_option maxHeartbeats 2000000
/-! plain lemmas about the mirrors' words -/
namespace Pl
open PySem Mw L2
section
variable {α β γ ρ σ : Type}
@[simp] theorem bind_s {f : α → Option β} {a : α} : (some a).bind f = f a := id rfl
@[simp] theorem o1_s {g : α → Option γ} {a : α} : o1 g (some a) = g a := id rfl
@[simp] theorem o2_s {g : α → β → Option γ} {a : α} {b : β} : o2 g (some a) (some b) = g a b := id rfl
@[simp] theorem o3_s {g : α → β → γ → Option ρ} {a : α} {b : β} {c : γ} : o3 g (some a) (some b) (some c) = g a b c := id rfl
@[simp] theorem o4_s {g : α → β → γ → ρ → Option σ} {a : α} {b : β} {c : γ} {d : ρ} : o4 g (some a) (some b) (some c) (some d) = g a b c d := id rfl
@[simp] theorem sP_s {a : α} {s : γ} : sP (some a) s = some (a, s) := id rfl
@[simp] theorem sK_s {a : α} {s : γ} : sK s (some a) = some (a, s) := id rfl
@[simp] theorem sC_s {a : α} {s : γ} {f : α → γ → Option (β × γ)} : sC (some (a, s)) f = f a s := id rfl
@[simp] theorem s1_s {a : α} {s : γ} {f : α → γ → Option (ρ × γ)} : s1 f (some (a, s)) = f a s := id rfl
@[simp] theorem s2_s {a : α} {s : γ} {f : α → β → γ → Option (ρ × γ)} {m : γ → Option (β × γ)} : s2 f (some (a, s)) m = sC (m s) fun b s => f a b s := id rfl
@[simp] theorem oAnd_t {b : Option Bool} : oAnd (some true) b = b := id rfl
@[simp] theorem oAnd_f {b : Option Bool} : oAnd (some false) b = some false := id rfl
@[simp] theorem oOr_t {b : Option Bool} : oOr (some true) b = some true := id rfl
@[simp] theorem oOr_f {b : Option Bool} : oOr (some false) b = b := id rfl
@[simp] theorem oNot_s {a : Bool} : oNot (some a) = some (!a) := id rfl
@[simp] theorem oIf_t {a b : Option α} : oIf (some true) a b = a := id rfl
@[simp] theorem oIf_f {a b : Option α} : oIf (some false) a b = b := id rfl
@[simp] theorem sAnd_t {s : γ} {b : γ → Option (Bool × γ)} : sAnd (some (true, s)) b = b s := id rfl
@[simp] theorem sAnd_f {s : γ} {b : γ → Option (Bool × γ)} : sAnd (some (false, s)) b = some (false, s) := id rfl
@[simp] theorem sOr_t {s : γ} {b : γ → Option (Bool × γ)} : sOr (some (true, s)) b = some (true, s) := id rfl
@[simp] theorem sOr_f {s : γ} {b : γ → Option (Bool × γ)} : sOr (some (false, s)) b = b s := id rfl
@[simp] theorem sNot_s {a : Bool} {s : γ} : sNot (some (a, s)) = some (!a, s) := id rfl
@[simp] theorem oCons_s {a : α} {l : List α} : oCons (some a) (some l) = some (a :: l) := id rfl
@[simp] theorem sCons_s {a : α} {s : γ} {l : γ → Option (List α × γ)} : sCons (some (a, s)) l = sC (l s) fun r s => some (a :: r, s) := id rfl
@[simp] theorem oP2_s {a : α} {b : β} : oP2 (some a) (some b) = some (a, b) := id rfl
@[simp] theorem oP3_s {a : α} {b : β} {c : γ} : oP3 (some a) (some b) (some c) = some (a, b, c) := id rfl
@[simp] theorem addG_s {a b : Int} : addG a b = some (a + b) := id rfl
@[simp] theorem subG_s {a b : Int} : subG a b = some (a - b) := id rfl
@[simp] theorem ltG_s {a b : Int} : ltG a b = some (decide (a < b)) := id rfl
@[simp] theorem leG_s {a b : Int} : leG a b = some (decide (a ≤ b)) := id rfl
@[simp] theorem gtG_s {a b : Int} : gtG a b = some (decide (b < a)) := id rfl
@[simp] theorem geG_s {a b : Int} : geG a b = some (decide (b ≤ a)) := id rfl
@[simp] theorem eqG_s {α : Type} [DecidableEq α] {a b : α} : eqG a b = some (decide (a = b)) := id rfl
@[simp] theorem neG_s {α : Type} [DecidableEq α] {a b : α} : neG a b = some (!decide (a = b)) := id rfl
@[simp] theorem absG_s {a : Int} : absG a = some (a.natAbs : Int) := by unfold absG; congr 1; split <;> omega
@[simp] theorem abs_if {a : Int} : (if a < 0 then -a else a) = (a.natAbs : Int) := by split <;> omega
@[simp] theorem negG_s {a : Int} : negG a = some (-a) := id rfl
@[simp] theorem maxG_s {a b : Int} : maxG a b = some (max a b) := by unfold maxG; congr 1; split <;> omega
@[simp] theorem minG_s {a b : Int} : minG a b = some (min a b) := by unfold minG; congr 1; split <;> omega
@[simp] theorem lenG_s {l : List α} : lenG l = some (l.length : Int) := id rfl
@[simp] theorem inG_s {a : Int} {l : List Int} : inG a l = some (decide (a ∈ l)) := id rfl
@[simp] theorem notInG_s {a : Int} {l : List Int} : notInG a l = some (!decide (a ∈ l)) := id rfl
theorem modG_s {a b : Int} (h : 0 < b) : modG a b = some (a % b) := if_pos h
theorem divG_s {a b : Int} {n : Nat} (h : 0 < b) (hb : b < 2 ^ n) (hn : n ≤ 9000) (h0 : 0 < n := by decide) : divG a b = some (a / b) := if_pos ⟨h, by
  have e : ((2 ^ n : Nat) : Int) = (2 : Int) ^ n := by rw [Int.natCast_pow] <;> rfl
  have q : b.natAbs < 2 ^ n := by omega
  have z := PySem.Flt.log2_lt_of h0 q
  omega⟩
theorem mulG_l {a b : Int} (h : a.natAbs < 2 ^ 64) : mulG a b = some (a * b) := if_pos (.inl h)
theorem mulG_r {a b : Int} (h : b.natAbs < 2 ^ 64) : mulG a b = some (a * b) := if_pos (.inr (.inl h))
theorem mulG_b {a b : Int} {m n : Nat} (ha : a.natAbs < 2 ^ m) (hb : b.natAbs < 2 ^ n) (h0 : 0 < m := by decide) (h1 : 0 < n := by decide) (h : m + n ≤ 134000000 := by decide) : mulG a b = some (a * b) := if_pos (.inr (.inr (by
  have x := PySem.Flt.log2_lt_of h0 ha
  have y := PySem.Flt.log2_lt_of h1 hb
  omega)))
theorem szG_s {l : List α} (h : l.length ≤ 16000000) : szG l = some l := if_pos h
theorem catG_s {a b : List α} (h : a.length + b.length ≤ 16000000) : catG a b = some (a ++ b) := if_pos h
theorem appG_s {a : List α} {x : α} (h : a.length ≤ 16000000) : appG a x = some (a ++ [x]) := if_pos h
theorem rngG_s {n : Int} (h : -(2 ^ 62) ≤ n) (h2 : n < 2 ^ 62) : rngG n = some (rngL 0 n) := if_pos ⟨h, h2⟩
@[simp] theorem cut_nn {l : List α} : cut l none none = l := by
  unfold cut
  simp [HT.sIx]
theorem cut_to {l : List α} {n : Nat} : cut l none (some (n : Int)) = l.take n := by
  unfold cut
  rw [HT.sIx_none, HT.sIx_nat, List.drop_zero, Nat.sub_zero]
  by_cases h : n ≤ l.length
  · rw [Nat.min_eq_left h]
  · rw [Nat.min_eq_right (by omega), List.take_of_length_le (Nat.le_refl _), List.take_of_length_le (by omega)]
theorem oCut_s {l : List α} {a b : Option Int} : oCut (some l) (some a) (some b) = some (cut l a b) := id rfl
/-! indices -/
theorem ixG_nat {l : List α} {i : Nat} {x : α} (h : l[i]? = some x) : ixG l (i : Int) = some x := atI_nat h
theorem ixG_at {l : List α} {i : Int} (h0 : 0 ≤ i) (h : i < l.length) : ixG l i = some (l[i.toNat]'(by omega)) := by
  obtain ⟨n, rfl⟩ : ∃ n : Nat, i = (n : Int) := ⟨i.toNat, by omega⟩
  exact ixG_nat (by simp)
@[simp] theorem ix0 {a : α} {l : List α} : ixG (a :: l) 0 = some a := ixG_nat (i := 0) rfl
@[simp] theorem ix1 {a b : α} {l : List α} : ixG (a :: b :: l) 1 = some b := ixG_nat (i := 1) rfl
@[simp] theorem ix2 {a b c : α} {l : List α} : ixG (a :: b :: c :: l) 2 = some c := ixG_nat (i := 2) rfl
theorem setG_nat {l : List α} {i : Nat} {x : α} (h : i < l.length) : setG l (i : Int) x = some (l.set i x) := by
  unfold setG ixN
  rw [if_pos (by omega), if_pos (by omega)]
  simp
@[simp] theorem set0 {a x : α} {l : List α} : setG (a :: l) 0 x = some (x :: l) := setG_nat (i := 0) (by simp)
@[simp] theorem set1 {a b x : α} {l : List α} : setG (a :: b :: l) 1 x = some (a :: x :: l) := setG_nat (i := 1) (by simp)
@[simp] theorem set2 {a b c x : α} {l : List α} : setG (a :: b :: c :: l) 2 x = some (a :: b :: x :: l) := setG_nat (i := 2) (by simp)
/-! loops -/
theorem fold_nil {f : α → γ → Option γ} {g : γ} : oFold f [] g = some g := id rfl
theorem fold_cons {f : α → γ → Option γ} {a : α} {l : List α} {g : γ} : oFold f (a :: l) g = (f a g).bind (oFold f l) := id rfl
/-- a fold that is a plain fold -/
theorem fold_pure {f : α → γ → Option γ} {h : γ → α → γ} (P : α → Prop) (hf : ∀ a g, P a → f a g = some (h g a)) : ∀ (l : List α) (g : γ), (∀ a ∈ l, P a) → oFold f l g = some (l.foldl h g)
  | [], _, _ => rfl
  | a :: l, g, hl => by
    rw [fold_cons, hf a g (hl a List.mem_cons_self)]
    exact fold_pure P hf l _ fun b hb => hl b (List.mem_cons_of_mem _ hb)
/-- a search that finds nothing -/
theorem loop_go {f : α → γ → Option (Lp γ ρ)} (I : List α → γ → Prop) : ∀ (l : List α) (g : γ), I l g → (∀ a l g, I (a :: l) g → ∃ g', f a g = some (.go g') ∧ I l g') → ∃ g', oLoop f l g = some (.nx g') ∧ I [] g'
  | [], g, h, _ => ⟨g, rfl, h⟩
  | a :: l, g, h, hs => by
    obtain ⟨g', h1, h2⟩ := hs a l g h
    obtain ⟨g'', h3, h4⟩ := loop_go I l g' h2 hs
    refine ⟨g'', ?_, h4⟩
    show ((f a g).bind _) = _
    rw [h1]
    exact h3
theorem loop_unit {f : α → Unit → Option (Lp Unit ρ)} {l : List α} (h : ∀ a ∈ l, f a () = some (.go ())) : oLoop f l () = some (.nx ()) := by
  obtain ⟨g, h1, _⟩ := loop_go (f := f) (fun l' _ => ∀ a ∈ l', a ∈ l) l () (fun a ha => ha) fun a l' g ha => ⟨(), h a (ha a List.mem_cons_self), fun b hb => ha b (List.mem_cons_of_mem _ hb)⟩
  cases g
  exact h1
theorem map_ok {t : α → Option Bool} {f : α → Option β} {p : α → Bool} {h : α → β} : ∀ {l : List α}, (∀ a ∈ l, t a = some (p a)) → (∀ a ∈ l, p a = true → f a = some (h a)) → oMap t f l = some ((l.filter p).map h)
  | [], _, _ => rfl
  | a :: l, ht, hf => by
    have ih := map_ok (l := l) (fun b hb => ht b (List.mem_cons_of_mem _ hb)) (fun b hb => hf b (List.mem_cons_of_mem _ hb))
    show (t a).bind _ = _
    rw [ht a List.mem_cons_self]
    show (if p a = true then _ else _) = _
    by_cases q : p a = true
    · rw [if_pos q, hf a List.mem_cons_self q, ih, List.filter_cons_of_pos q] <;> rfl
    · rw [if_neg q, ih, List.filter_cons_of_neg q]
theorem lc_ok {t : α → Option Bool} {f : α → Option β} {p : α → Bool} {h : α → β} {l : List α} (hl : l.length ≤ 16000000) (ht : ∀ a ∈ l, t a = some (p a)) (hf : ∀ a ∈ l, p a = true → f a = some (h a)) : oLc t f l = some ((l.filter p).map h) := by
  unfold oLc
  rw [if_pos hl, map_ok ht hf]
theorem lc_map {f : α → Option β} {h : α → β} {l : List α} (hl : l.length ≤ 16000000) (hf : ∀ a ∈ l, f a = some (h a)) : oLc yes f l = some (l.map h) := by
  have q := lc_ok (t := yes) (p := fun _ => true) hl (fun _ _ => rfl) fun a ha _ => hf a ha
  rw [List.filter_eq_self.mpr (fun _ _ => rfl)] at q
  exact q
theorem rngL_mem {lo hi i : Int} (h : i ∈ rngL lo hi) : lo ≤ i ∧ i < hi := by
  unfold rngL at h
  obtain ⟨k, h1, h2⟩ := List.mem_map.mp h
  have := List.mem_range.mp h1
  omega
/-- a while: measure -/
theorem while_step {t : γ → Option Bool} {f : γ → Option γ} {n : Nat} {g g' : γ} (ht : t g = some true) (hf : f g = some g') : oWhile t f (n + 1) g = oWhile t f n g' := by
  simp only [oWhile, ht, hf, bind_s, if_true]
theorem while_stop {t : γ → Option Bool} {f : γ → Option γ} {n : Nat} {g : γ} (ht : t g = some false) : oWhile t f (n + 1) g = some g := by
  simp only [oWhile, ht, bind_s, if_neg Bool.false_ne_true]
end
/-! ### what a mirror's word answers -/
section
variable {α β γ ρ : Type}
def W (m : Option α) (Q : α → Prop) : Prop := ∃ d, m = some d ∧ Q d
theorem W_some {d : α} {Q : α → Prop} (h : Q d) : W (some d) Q := ⟨d, rfl, h⟩
theorem W_eq {m : Option α} {d : α} {Q : α → Prop} (e : m = some d) (h : Q d) : W m Q := ⟨d, e, h⟩
theorem W_bind {m : Option α} {f : α → Option β} {Q : β → Prop} (h : W m fun d => W (f d) Q) : W (m.bind f) Q := by
  obtain ⟨d, rfl, d2, e2, q⟩ := h
  exact ⟨d2, e2, q⟩
theorem W_mono {m : Option α} {P Q : α → Prop} (h : W m P) (hq : ∀ d, P d → Q d) : W m Q := by
  obtain ⟨d, e, p⟩ := h
  exact ⟨d, e, hq d p⟩
theorem W_then {m : Option α} {f : α → Option β} {P : α → Prop} {Q : β → Prop} (h : W m P) (hq : ∀ d, P d → W (f d) Q) : W (m.bind f) Q := W_bind (W_mono h hq)
theorem W_beq {m : Option α} {f : α → Option β} {d : α} {Q : β → Prop} (e : m = some d) (h : W (f d) Q) : W (m.bind f) Q := W_bind (W_eq e h)
theorem W_is {m : Option α} {d : α} (h : W m fun x => x = d) : m = some d := by
  obtain ⟨a, rfl, p⟩ := h
  rw [p]
/-- a search over all, each of which lets it go on -/
theorem W_all {f : α → Unit → Option (Lp Unit ρ)} {Q : Out Unit ρ → Prop} {l : List α} (hs : ∀ a ∈ l, W (f a ()) fun o => o = .go ()) (hq : Q (.nx ())) : W (oLoop f l ()) Q := by
  have e : oLoop f l () = some (.nx ()) := loop_unit fun a ha => W_is (hs a ha)
  exact ⟨_, e, hq⟩
end
/-! ### Euclid -/
theorem euclid {t : Int × Int → Option Bool} {f : Int × Int → Option (Int × Int)} (ht : ∀ a b, t (a, b) = some (decide (0 < b))) (hf : ∀ a b, 0 < b → f (a, b) = some (b, a % b)) :
    ∀ (b a n : Nat), b < n → oWhile t f n ((a : Int), (b : Int)) = some (((Nat.gcd a b : Nat) : Int), 0) := by
  intro b
  induction b using Nat.strongRecOn with
  | ind b ih =>
    intro a n hn
    obtain ⟨n, rfl⟩ : ∃ k, n = k + 1 := ⟨n - 1, by omega⟩
    by_cases hb : b = 0
    · subst hb
      rw [while_stop (by rw [ht]; rfl), Nat.gcd_zero_right] <;> rfl
    · have hb' : 0 < b := Nat.pos_of_ne_zero hb
      rw [while_step (g' := ((b : Int), ((a % b : Nat) : Int))) (by rw [ht]; congr 1; exact decide_eq_true (by omega)) (by rw [hf _ _ (by omega)]; congr 1)]
      have hlt := Nat.mod_lt a hb'
      rw [ih (a % b) hlt b n (by omega)]
      rw [Nat.gcd_comm b (a % b), ← Nat.gcd_rec, Nat.gcd_comm]
/-- the greatest common divisor of a list -/
def gcdL (l : List Int) : Nat := l.foldl (fun g v => Nat.gcd g v.natAbs) 0
theorem foldl_gcd (l : List Int) : ∀ g : Nat, l.foldl (fun g v => Nat.gcd g v.natAbs) g = Nat.gcd g (gcdL l) := by
  induction l with
  | nil => intro g; unfold gcdL; simp
  | cons a l ih =>
    intro g
    unfold gcdL
    rw [List.foldl_cons, List.foldl_cons, ih, ih, Nat.gcd_zero_left, Nat.gcd_assoc]
theorem gcdL_cons (a : Int) (l : List Int) : gcdL (a :: l) = Nat.gcd a.natAbs (gcdL l) := by
  unfold gcdL
  rw [List.foldl_cons, foldl_gcd, Nat.gcd_zero_left] <;> rfl
theorem gcdL_dvd {l : List Int} {v : Int} (h : v ∈ l) : (gcdL l : Int) ∣ v := by
  induction l with
  | nil => cases h
  | cons a l ih =>
    rw [gcdL_cons]
    rcases List.mem_cons.mp h with rfl | h
    · exact Int.ofNat_dvd_left.mpr (Nat.gcd_dvd_left _ _)
    · exact Int.dvd_trans (Int.natCast_dvd_natCast.mpr (Nat.gcd_dvd_right _ _)) (ih h)
theorem dvd_gcdL {l : List Int} {d : Nat} (h : ∀ v ∈ l, (d : Int) ∣ v) : d ∣ gcdL l := by
  induction l with
  | nil => exact Nat.dvd_zero _
  | cons a l ih =>
    rw [gcdL_cons]
    exact Nat.dvd_gcd (Int.ofNat_dvd_left.mp (h a List.mem_cons_self)) (ih fun v hv => h v (List.mem_cons_of_mem _ hv))
theorem gcdL_zero {l : List Int} (h : gcdL l = 0) : ∀ v ∈ l, v = 0 := fun v hv => by
  have := gcdL_dvd hv
  rw [h] at this
  exact Int.zero_dvd.mp this
theorem gcdL_zeros {l : List Int} (h : ∀ v ∈ l, v = 0) : gcdL l = 0 := by
  induction l with
  | nil => rfl
  | cons a l ih => rw [gcdL_cons, ih fun v hv => h v (List.mem_cons_of_mem _ hv), h a List.mem_cons_self]; rfl
/-! searches, lists by index -/
section
variable {α β ρ : Type}
theorem loop_find {p : α → Bool} {f : α → Unit → Option (Lp Unit ρ)} {r : α → ρ} : ∀ {l : List α}, (∀ a ∈ l, f a () = if p a = true then some (.ret (r a)) else some (.go ())) → oLoop f l () = some (match l.find? p with
    | some a => .ret (r a)
    | none => .nx ())
  | [], _ => rfl
  | a :: l, hf => by
    have ih := loop_find (l := l) fun b hb => hf b (List.mem_cons_of_mem _ hb)
    by_cases q : p a = true
    · simp only [oLoop, hf a List.mem_cons_self, if_pos q, bind_s]
      rw [List.find?_cons_of_pos q]
    · simp only [oLoop, hf a List.mem_cons_self, if_neg q, bind_s]
      rw [List.find?_cons_of_neg q]
      exact ih
theorem lc_rng {f : Int → Option β} {h : Nat → β} {n : Nat} (hn : n ≤ 16000000) (hf : ∀ i, i < n → f (i : Int) = some (h i)) : oLc yes f (rngL 0 n) = some ((List.range n).map h) := by
  have e : rngL 0 n = (List.range n).map fun (i : Nat) => (i : Int) := by
    unfold rngL
    have e1 : ((n : Int) - 0).toNat = n := by omega
    rw [e1]
    exact List.map_congr_left fun i _ => Int.zero_add _
  have q : ∀ l : List Nat, (∀ i ∈ l, i < n) → oMap yes f (l.map fun (i : Nat) => (i : Int)) = some (l.map h) := by
    intro l
    induction l with
    | nil => intro _; rfl
    | cons i l ih =>
      intro hl
      rw [List.map_cons]
      simp only [oMap, yes, bind_s, if_true, hf i (hl i List.mem_cons_self)]
      have := ih fun j hj => hl j (List.mem_cons_of_mem _ hj)
      rw [this]
      rfl
  unfold oLc
  rw [if_pos (by rw [rngL_len]; omega), e]
  exact q _ fun i hi => List.mem_range.mp hi
theorem range_zip {γ : Type} {g : α → β → γ} {a : List α} {b : List β} (h : a.length = b.length) : ∀ {k : Nat → γ}, (∀ i (h1 : i < a.length) (h2 : i < b.length), k i = g a[i] b[i]) → (List.range a.length).map k = List.zipWith g a b := by
  intro k hk
  refine List.ext_getElem (by simp [h]) fun i h1 h2 => ?_
  simp at h1 h2
  rw [List.getElem_map, List.getElem_range, List.getElem_zipWith]
  exact hk i h1 (by omega)
theorem ixG_i {l : List α} {i : Nat} (h : i < l.length) : ixG l (i : Int) = some l[i] := ixG_nat (by simp [h])
@[simp] theorem rngW_s {a b : Int} : rngW a b = some (rngL a b) := id rfl
@[simp] theorem oApp_s {a l : List α} : oApp (some a) (some l) = some (a ++ l) := id rfl
@[simp] theorem map_s {f : α → β} {a : α} : Option.map f (some a) = some (f a) := id rfl
end
theorem rngL_cons {a b : Int} (h : a < b) : rngL a b = a :: rngL (a + 1) b := by
  unfold rngL
  rw [show (b - a).toNat = (b - (a + 1)).toNat + 1 by omega, List.range_succ_eq_map, List.map_cons, List.map_map]
  congr 1
  · omega
  · exact List.map_congr_left fun i _ => by show a + ((i + 1 : Nat) : Int) = a + 1 + (i : Int); omega
theorem rngL_nil' {a b : Int} (h : b ≤ a) : rngL a b = [] := by
  unfold rngL
  rw [show (b - a).toNat = 0 by omega]
  rfl
section
variable {β γ : Type}
theorem smapR {f : Int → γ → Option (β × γ)} (I : Nat → γ → Prop) (B : β → Prop) {N : Nat} (hs : ∀ i g, i < N → I i g → W (f (i : Int) g) fun r => B r.1 ∧ I (i + 1) r.2) : ∀ (k j : Nat) (g : γ), j + k = N → I j g → ∃ xs g', sMap f (rngL (j : Int) (N : Int)) g = some (xs, g') ∧ xs.length = k ∧ (∀ x ∈ xs, B x) ∧ I N g'
  | 0, j, g, e, h => by
    have e : j = N := e
    subst e
    rw [rngL_nil' (Int.le_refl _)]
    exact ⟨[], g, rfl, rfl, fun x hx => absurd hx List.not_mem_nil, h⟩
  | k + 1, j, g, e, h => by
    rw [rngL_cons (by omega)]
    obtain ⟨⟨x, g1⟩, e1, b1, h1⟩ := hs j g (by omega) h
    obtain ⟨xs, g2, e2, l2, b2, h2⟩ := smapR I B hs k (j + 1) g1 (by omega) h1
    have ej : (j : Int) + 1 = ((j + 1 : Nat) : Int) := by omega
    refine ⟨x :: xs, g2, ?_, by rw [List.length_cons, l2], fun y hy => ?_, h2⟩
    · simp only [sMap, e1, sC_s, ej, e2]
    · rcases List.mem_cons.mp hy with rfl | hy
      · exact b1
      · exact b2 y hy
theorem W_slcR {f : Int → γ → Option (β × γ)} {Q : List β × γ → Prop} (I : Nat → γ → Prop) (B : β → Prop) {N : Nat} {g : γ} (hN : N ≤ 16000000) (h : I 0 g) (hs : ∀ i g, i < N → I i g → W (f (i : Int) g) fun r => B r.1 ∧ I (i + 1) r.2) (hq : ∀ xs g', xs.length = N → (∀ x ∈ xs, B x) → I N g' → Q (xs, g')) : W (sLc f (rngL 0 (N : Int)) g) Q := by
  obtain ⟨xs, g', e, l, b, i⟩ := smapR I B hs N 0 g (Nat.zero_add _) h
  unfold sLc
  rw [if_pos (by rw [rngL_len]; omega)]
  exact ⟨_, e, hq xs g' l b i⟩
/-- a fold over 0 .. N - 1, by the index -/
theorem W_foldR {f : Int → γ → Option γ} {Q : γ → Prop} (I : Nat → γ → Prop) {N : Nat} {g : γ} (h : I 0 g) (hs : ∀ i g, i < N → I i g → W (f (i : Int) g) (I (i + 1))) (hq : ∀ g, I N g → Q g) : W (oFold f (rngL 0 (N : Int)) g) Q := by
  have key : ∀ (k j : Nat) (g : γ), j + k = N → I j g → ∃ g', oFold f (rngL (j : Int) (N : Int)) g = some g' ∧ I N g' := by
    intro k
    induction k with
    | zero =>
      intro j g e h
      have e : j = N := e
      subst e
      rw [rngL_nil' (Int.le_refl _)]
      exact ⟨g, rfl, h⟩
    | succ k ih =>
      intro j g e h
      rw [rngL_cons (by omega)]
      obtain ⟨g1, e1, h1⟩ := hs j g (by omega) h
      obtain ⟨g2, e2, h2⟩ := ih (j + 1) g1 (by omega) h1
      have ej : (j : Int) + 1 = ((j + 1 : Nat) : Int) := by omega
      exact ⟨g2, by rw [fold_cons, e1, bind_s, ej, e2], h2⟩
  obtain ⟨g', e, i⟩ := key N 0 g (Nat.zero_add _) h
  exact ⟨g', e, hq g' i⟩
end
theorem cut_from {α : Type} {l : List α} {n : Nat} : cut l (some (n : Int)) none = l.drop n := by
  unfold cut
  rw [HT.sIx_none, HT.sIx_nat]
  by_cases h : n ≤ l.length
  · rw [Nat.min_eq_left h]
    exact List.take_of_length_le (by rw [List.length_drop]; omega)
  · rw [Nat.min_eq_right (by omega), Nat.sub_self, List.take_zero, List.drop_eq_nil_of_le (by omega)]
/-! types whose data are always as they stand: == and in answer -/
section
class SkA (α : Type) [Sk α] : Prop where
  all : ∀ a : α, Sk.ok a = true
instance : SkA Int := ⟨fun _ => rfl⟩
instance : SkA Bool := ⟨fun _ => rfl⟩
instance : SkA Unit := ⟨fun _ => rfl⟩
instance {α : Type} [Sk α] [SkA α] : SkA (List α) := ⟨fun l => List.all_eq_true.mpr fun a _ => SkA.all a⟩
instance {α β : Type} [Sk α] [Sk β] [SkA α] [SkA β] : SkA (α × β) := ⟨fun p => Bool.and_eq_true_iff.mpr ⟨SkA.all p.1, SkA.all p.2⟩⟩
instance {α : Type} [Sk α] [SkA α] : SkA (Option α) := ⟨fun o => match o with
  | none => rfl
  | some a => SkA.all a⟩
variable {α : Type} [DecidableEq α] [Sk α] [SkA α]
theorem eqDG_s (a b : α) : eqDG a b = some (decide (a = b)) := if_pos ⟨SkA.all a, SkA.all b⟩
theorem inDG_s (a : α) (l : List α) : inDG a l = some (decide (a ∈ l)) := if_pos ⟨SkA.all a, SkA.all l⟩
end
end Pl

set_option maxHeartbeats 1000000
/-! numbers: primes, what divides, inverses, two remainders at once; no program -/
namespace Nt
def Prm (p : Nat) : Prop := 2 ≤ p ∧ ∀ d, d ∣ p → d = 1 ∨ d = p
theorem Prm.pos {p : Nat} (h : Prm p) : 0 < p := by have := h.1; omega
theorem Prm.coprime {p a : Nat} (h : Prm p) (ha : ¬ p ∣ a) : Nat.Coprime p a := by
  rcases h.2 _ (Nat.gcd_dvd_left p a) with e | e
  · exact e
  · exact absurd (e ▸ Nat.gcd_dvd_right p a) ha
theorem Prm.coprime2 {p q : Nat} (h : Prm p) (hq : Prm q) (n : p ≠ q) : Nat.Coprime p q := h.coprime fun d => by
  rcases hq.2 p d with e | e
  · have := h.1; omega
  · exact n e
theorem exists_prm : ∀ n : Nat, 2 ≤ n → ∃ p, Prm p ∧ p ∣ n := by
  intro n
  induction n using Nat.strongRecOn with
  | ind n ih =>
    intro hn
    by_cases q : Prm n
    · exact ⟨n, q, Nat.dvd_refl n⟩
    · have : ∃ d, d ∣ n ∧ d ≠ 1 ∧ d ≠ n := Classical.byContradiction fun z => q ⟨hn, fun d hd => by
        by_cases e1 : d = 1
        · exact .inl e1
        · by_cases e2 : d = n
          · exact .inr e2
          · exact absurd ⟨d, hd, e1, e2⟩ z⟩
      obtain ⟨d, hd, n1, n2⟩ := this
      have h1 := Nat.le_of_dvd (by omega) hd
      have h0 : d ≠ 0 := fun e => by
        subst e
        have := Nat.eq_zero_of_zero_dvd hd
        omega
      obtain ⟨p, hp, hpd⟩ := ih d (by omega) (by omega)
      exact ⟨p, hp, Nat.dvd_trans hpd hd⟩
/-- no prime divides both -/
theorem coprime_of_prm {a b : Nat} (h : ∀ p, Prm p → p ∣ a → ¬ p ∣ b) (h0 : a ≠ 0 ∨ b ≠ 0) : Nat.gcd a b = 1 := by
  by_cases e : Nat.gcd a b = 1
  · exact e
  · have n0 : Nat.gcd a b ≠ 0 := fun z => by
      have := Nat.gcd_eq_zero_iff.mp z
      omega
    obtain ⟨p, hp, hd⟩ := exists_prm (Nat.gcd a b) (by omega)
    exact absurd (Nat.dvd_trans hd (Nat.gcd_dvd_right a b)) (h p hp (Nat.dvd_trans hd (Nat.gcd_dvd_left a b)))
theorem gcd_one_iff {a b : Nat} (h0 : b ≠ 0) : Nat.gcd a b = 1 ↔ ∀ p, Prm p → p ∣ b → ¬ p ∣ a := by
  constructor
  · intro h p hp hb ha
    have := Nat.dvd_gcd ha hb
    rw [h] at this
    have h1 := Nat.le_of_dvd (by decide) this
    have := hp.1
    omega
  · intro h
    exact coprime_of_prm (fun p hp ha hb => h p hp hb ha) (.inr h0)
/-- what the primes' loop knows: all primes below q are found, m is what is left -/
structure PI (N : Nat) (found : List Nat) (m q : Nat) : Prop where
  q2 : 2 ≤ q
  m1 : 1 ≤ m
  mN : m ≤ N
  asc : found.Pairwise (· < ·)
  mem : ∀ p, p ∈ found ↔ Prm p ∧ p ∣ N ∧ p < q
  up : ∀ p, Prm p → q ≤ p → (p ∣ N ↔ p ∣ m)
  dn : ∀ p, Prm p → p < q → ¬ p ∣ m
/-- the ascending list of the primes that divide N -/
structure PD (N : Nat) (l : List Nat) : Prop where
  asc : l.Pairwise (· < ·)
  mem : ∀ p, p ∈ l ↔ Prm p ∧ p ∣ N
theorem PI.start {N : Nat} (h : 1 ≤ N) : PI N [] N 2 := ⟨Nat.le_refl _, h, Nat.le_refl _, .nil, fun p => ⟨fun q => (by cases q), fun q => by have := q.1.1; omega⟩, fun p _ _ => Iff.rfl, fun p hp q => by have := hp.1; omega⟩
theorem PI.prm {N m q : Nat} {l : List Nat} (h : PI N l m q) (hq : q ∣ m) : Prm q := by
  obtain ⟨p, hp, hd⟩ := exists_prm q h.q2
  have h1 := Nat.le_of_dvd (by have := h.q2; omega) hd
  by_cases e : p = q
  · exact e ▸ hp
  · exact absurd (Nat.dvd_trans hd hq) (h.dn p hp (by omega))
/-- q divides; m' is m without q -/
theorem PI.take {N m m' q k : Nat} {l : List Nat} (h : PI N l m q) (hq : q ∣ m) (e : m = q ^ k * m') (hn : ¬ q ∣ m') : PI N (l ++ [q]) m' (q + 1) := by
  have hp := h.prm hq
  have m0 : 1 ≤ m' := by
    rcases Nat.eq_zero_or_pos m' with z | z
    · subst z
      exact absurd (Nat.dvd_zero q) hn
    · exact z
  have hle : m' ≤ m := by rw [e]; exact Nat.le_mul_of_pos_left _ (Nat.pow_pos hp.pos)
  have other : ∀ p, Prm p → p ≠ q → (p ∣ m ↔ p ∣ m') := fun p hp2 ne => by
    constructor
    · intro hd
      rw [e] at hd
      have : ∀ k, p ∣ q ^ k * m' → p ∣ m' := by
        intro k
        induction k with
        | zero => intro z; simpa using z
        | succ k ih =>
          intro z
          rw [Nat.pow_succ, Nat.mul_assoc] at z
          have z2 : p ∣ q * (q ^ k * m') := by
            have e3 : q ^ k * (q * m') = q * (q ^ k * m') := by rw [Nat.mul_left_comm]
            rw [← e3]
            exact z
          exact ih (Nat.Coprime.dvd_of_dvd_mul_left (hp2.coprime2 hp ne) z2)
      exact this k hd
    · intro hd
      rw [e]
      exact Nat.dvd_trans hd (Nat.dvd_mul_left _ _)
  refine ⟨by have := h.q2; omega, m0, by have := h.mN; omega, ?_, fun p => ?_, fun p hp2 hl => ?_, fun p hp2 hl => ?_⟩
  · rw [List.pairwise_append]
    refine ⟨h.asc, List.pairwise_singleton _ _, fun a ha b hb => ?_⟩
    have := ((h.mem a).mp ha).2.2
    have e : b = q := by simpa using hb
    omega
  · rw [List.mem_append, h.mem p]
    constructor
    · rintro (⟨a, b, c⟩ | z)
      · exact ⟨a, b, by omega⟩
      · have e : p = q := by simpa using z
        subst e
        exact ⟨hp, (h.up p hp (Nat.le_refl _)).mpr hq, by omega⟩
    · rintro ⟨a, b, c⟩
      by_cases e : p = q
      · subst e
        exact .inr (by simp)
      · exact .inl ⟨a, b, by omega⟩
  · rw [h.up p hp2 (by omega), other p hp2 (by omega)]
  · by_cases e : p = q
    · subst e
      exact hn
    · exact fun z => h.dn p hp2 (by omega) ((other p hp2 e).mpr z)
/-- two ascending lists of the same numbers are one -/
theorem asc_eq : ∀ {l r : List Nat}, l.Pairwise (· < ·) → r.Pairwise (· < ·) → (∀ p, p ∈ l ↔ p ∈ r) → l = r
  | [], [], _, _, _ => rfl
  | [], b :: r, _, _, h => absurd ((h b).mpr (by simp)) (by simp)
  | a :: l, [], _, _, h => absurd ((h a).mp (by simp)) (by simp)
  | a :: l, b :: r, hl, hr, h => by
    rw [List.pairwise_cons] at hl hr
    have e : a = b := by
      rcases List.mem_cons.mp ((h a).mp (by simp)) with e | e
      · exact e
      · rcases List.mem_cons.mp ((h b).mpr (by simp)) with e2 | e2
        · exact e2.symm
        · have h1 := hr.1 a e
          have h2 := hl.1 b e2
          omega
    subst e
    refine congrArg (a :: ·) (asc_eq hl.2 hr.2 fun p => ?_)
    have hp := h p
    rw [List.mem_cons, List.mem_cons] at hp
    constructor
    · intro z
      rcases hp.mp (.inr z) with e | e
      · have := hl.1 p z
        omega
      · exact e
    · intro z
      rcases hp.mpr (.inr z) with e | e
      · have := hr.1 p z
        omega
      · exact e
theorem PD.eq {N : Nat} {l r : List Nat} (h : PD N l) (g : PD N r) : l = r := asc_eq h.asc g.asc fun p => (h.mem p).trans (g.mem p).symm
theorem PD.prm {N : Nat} {l : List Nat} (h : PD N l) {p : Nat} (hp : p ∈ l) : Prm p := ((h.mem p).mp hp).1
theorem PD.dvd {N : Nat} {l : List Nat} (h : PD N l) {p : Nat} (hp : p ∈ l) : p ∣ N := ((h.mem p).mp hp).2
theorem PD.nil {N : Nat} {l : List Nat} (h : PD N l) (hN : 2 ≤ N) : l ≠ [] := fun e => by
  obtain ⟨p, hp, hd⟩ := exists_prm N hN
  have := (h.mem p).mpr ⟨hp, hd⟩
  rw [e] at this
  cases this
theorem PD.one {l : List Nat} (h : PD 1 l) : l = [] := by
  cases l with
  | nil => rfl
  | cons a l =>
    have h1 := h.dvd (p := a) (by simp)
    have h2 := Nat.le_of_dvd (by decide) h1
    have := (h.prm (p := a) (by simp)).1
    omega
/-- coprime to N: no prime of the list divides -/
theorem PD.gcd {N : Nat} {l : List Nat} (h : PD N l) (hN : 1 ≤ N) (u : Int) : Nat.gcd u.natAbs N = 1 ↔ ∀ p ∈ l, ¬ (p : Int) ∣ u := by
  rw [gcd_one_iff (by omega)]
  constructor
  · intro g p hp hd
    exact g p (h.prm hp) (h.dvd hp) (Int.ofNat_dvd_left.mp hd)
  · intro g p hp hd hu
    exact g p ((h.mem p).mpr ⟨hp, hd⟩) (Int.ofNat_dvd_left.mpr hu)
/-! q taken out -/
/-! Bezout -/
end Nt
namespace Nt
open Mw Pl
/-! sums over a range -/
/-! terms (modulus, remainder, sign) -/
def ind (m o t : Int) : Int := if m ∣ t - o then 1 else 0
end Nt

set_option maxHeartbeats 2000000
namespace Mi
open PySem L2 Mw
def m_Picture___init__ (self : (Option Int × Option (List (List Int × PySem.Str)) × Option (List (List Int)) × Option (List (List Int)))) (size : Int) (seen : (List (List Int))) (hidden : (List (List Int))) : Option (Unit × (Option Int × Option (List (List Int × PySem.Str)) × Option (List (List Int)) × Option (List (List Int)))) :=
  (o2 notInG (some size) (some [2, 3])).bind fun b => if b = true then
    none
  else
    (some []).bind fun (words : (List (List Int × PySem.Str))) =>
    (some [(("seen" : PySem.Str), seen), (("hidden" : PySem.Str), hidden)]).bind fun (l_ : List (PySem.Str × (List (List Int)))) => (oFold (γ := (List (List Int × PySem.Str))) (fun ((word, places) : PySem.Str × (List (List Int))) ((words) : (List (List Int × PySem.Str))) =>
        (some places).bind fun (l_ : List (List Int)) => (oFold (γ := (List (List Int × PySem.Str))) (fun (place : (List Int)) ((words) : (List (List Int × PySem.Str))) =>
          (some (!decide ((place.length : Int) = size))).bind fun b => if b = true then
          none
        else
          (o2 dInG (some place) (some words)).bind fun b => if b = true then
            none
          else
            (some word).bind fun val => (some place).bind fun ix => (dPutG words ix val).bind fun (words : (List (List Int × PySem.Str))) =>
            some (words)) l_ (words)).bind fun ((words) : (List (List Int × PySem.Str))) =>
      some (words)) l_ (words)).bind fun ((words) : (List (List Int × PySem.Str))) =>
    (some size).bind fun val => (put4_0 self val).bind fun (self : (Option Int × Option (List (List Int × PySem.Str)) × Option (List (List Int)) × Option (List (List Int)))) =>
    (some words).bind fun val => (put4_1 self val).bind fun (self : (Option Int × Option (List (List Int × PySem.Str)) × Option (List (List Int)) × Option (List (List Int)))) =>
    (o1 sortG (some seen)).bind fun val => (put4_2 self val).bind fun (self : (Option Int × Option (List (List Int × PySem.Str)) × Option (List (List Int)) × Option (List (List Int)))) =>
    (o1 sortG (some hidden)).bind fun val => (put4_3 self val).bind fun (self : (Option Int × Option (List (List Int × PySem.Str)) × Option (List (List Int)) × Option (List (List Int)))) =>
    some ((), self)
def m_Picture___or__ (self : (Int × (List (List Int × PySem.Str)) × (List (List Int)) × (List (List Int)))) (other : (Int × (List (List Int × PySem.Str)) × (List (List Int)) × (List (List Int)))) : Option (Except Er (Int × (List (List Int × PySem.Str)) × (List (List Int)) × (List (List Int)))) :=
  (some (!decide (self.1 = other.1))).bind fun b => if b = true then
    (some other.1).bind fun p_ => some (.error ⟨"InvalidSize", .int p_⟩)
  else
    (o1 sortG ((some self.2.1).map fun d => d.map fun x => x.1)).bind fun (l_ : List (List Int)) => (oLoop (γ := Unit) (ρ := (Except Er (Int × (List (List Int × PySem.Str)) × (List (List Int)) × (List (List Int))))) (fun (place : (List Int)) (() : Unit) =>
        (oAnd (o2 dInG (some place) (some other.2.1)) (o2 neG (o2 dGetG (some other.2.1) (some place)) (o2 dGetG (some self.2.1) (some place)))).bind fun b => if b = true then
        (some place).bind fun p_ => some (.ret (.error ⟨"Conflict", .tup p_⟩))
      else
        some (.go ())) l_ ()).bind fun o_ => match o_ with
    | .ret r_ => some r_
    | .nx (() : Unit) =>
      (o2 catG (some self.2.2.1) (o1 (oLc (fun (place : (List Int)) => (o2 dNotInG (some place) (some self.2.1))) (fun (place : (List Int)) => (some place))) (some other.2.2.1))).bind fun (seen : (List (List Int))) =>
    (o2 catG (some self.2.2.2) (o1 (oLc (fun (place : (List Int)) => (o2 dNotInG (some place) (some self.2.1))) (fun (place : (List Int)) => (some place))) (some other.2.2.2))).bind fun (hidden : (List (List Int))) =>
    (o3 (fun a0 a1 a2 => (m_Picture___init__ (none, none, none, none) a0 a1 a2).bind fun r => finO4 r.2) (some self.1) (some seen) (some hidden)).bind fun rv => some (.ok rv)
def m_Picture___sub__ (self : (Int × (List (List Int × PySem.Str)) × (List (List Int)) × (List (List Int)))) (other : (Int × (List (List Int × PySem.Str)) × (List (List Int)) × (List (List Int)))) : Option (Int × (List (List Int × PySem.Str)) × (List (List Int)) × (List (List Int))) :=
  (some (!decide (self.1 = other.1))).bind fun b => if b = true then
    none
  else
    (o1 (oLc (fun (place : (List Int)) => (o2 dNotInG (some place) (some other.2.1))) (fun (place : (List Int)) => (some place))) (some self.2.2.1)).bind fun (seen : (List (List Int))) =>
    (o3 (fun a0 a1 a2 => (m_Picture___init__ (none, none, none, none) a0 a1 a2).bind fun r => finO4 r.2) (some self.1) (some seen) (o1 (oLc (fun (place : (List Int)) => (o2 dNotInG (some place) (some other.2.1))) (fun (place : (List Int)) => (some place))) (some self.2.2.2))).bind fun rv => some rv
def m_Picture___len__ (self : (Int × (List (List Int × PySem.Str)) × (List (List Int)) × (List (List Int)))) : Option Int :=
  (some (self.2.1.length : Int)).bind fun rv => some rv
def m_Picture___eq__ (self : (Int × (List (List Int × PySem.Str)) × (List (List Int)) × (List (List Int)))) (other : (Int × (List (List Int × PySem.Str)) × (List (List Int)) × (List (List Int)))) : Option Bool :=
  (some ((!true) || (!decide (self.1 = other.1)))).bind fun b => if b = true then
    (some false).bind fun rv => some rv
  else
    (oAnd (o2 eqDG (some self.2.2.1) (some other.2.2.1)) (o2 eqDG (some self.2.2.2) (some other.2.2.2))).bind fun rv => some rv
def m_common_divisor (one : Int) (other : Int) : Option Int :=
  (oP2 (some (if one < 0 then -one else one)) (some (if other < 0 then -other else other))).bind fun ((one, other) : Int × Int) =>
  (oWhile (γ := Int × Int) (fun ((one, other) : Int × Int) => (some (decide (0 < other)))) (fun ((one, other) : Int × Int) =>
      (oP2 (some other) (o2 modG (some one) (some other))).bind fun ((one, other) : Int × Int) =>
    some (one, other)) (other.natAbs + 1) (one, other)).bind fun ((one, other) : Int × Int) =>
  (some one).bind fun rv => some rv
def m_divisor_of (values : (List Int)) : Option Int :=
  (some 0).bind fun (found : Int) =>
  (some values).bind fun (l_ : List Int) => (oFold (γ := Int) (fun (value : Int) ((found) : Int) =>
      (m_common_divisor found value).bind fun (found : Int) =>
    some (found)) l_ (found)).bind fun ((found) : Int) =>
  (some found).bind fun rv => some rv
def m_Line___init__ (self : (Option (List Int) × Option (List Int))) (start_ : (List Int)) (step : (List Int)) : Option (Except Er (Unit × (Option (List Int) × Option (List Int)))) :=
  (o2 notInG (some (start_.length : Int)) (some [2, 3])).bind fun b => if b = true then
    (some start_).bind fun p_ => some (.error ⟨"InvalidPlace", .tup p_⟩)
  else
    (some (!decide ((step.length : Int) = (start_.length : Int)))).bind fun b => if b = true then
      (some step).bind fun p_ => some (.error ⟨"InvalidPlace", .tup p_⟩)
    else
      (o2 neG (m_divisor_of step) (some 1)).bind fun b => if b = true then
        (some step).bind fun p_ => some (.error ⟨"InvalidStep", .tup p_⟩)
      else
        (some start_).bind fun val => (putA self val).bind fun (self : (Option (List Int) × Option (List Int))) =>
        (some step).bind fun val => (putB self val).bind fun (self : (Option (List Int) × Option (List Int))) =>
        some (.ok ((), self))
def m_Line___eq__ (self : ((List Int) × (List Int))) (other : ((List Int) × (List Int))) : Option Bool :=
  (some (!true)).bind fun b => if b = true then
    (some false).bind fun rv => some rv
  else
    (oAnd (o2 eqDG (some self.1) (some other.1)) (o2 eqDG (some self.2) (some other.2))).bind fun rv => some rv
def m_show_place (place : (List Int)) : Option PySem.Str :=
  (o2 catS (o2 catS (some ("(" : PySem.Str)) (o2 joinG (some ("," : PySem.Str)) (o1 (oLc yes (fun (value : Int) => (o1 strI (some value)))) (some place)))) (some (")" : PySem.Str))).bind fun rv => some rv
def m_Picture_size (self : (Int × (List (List Int × PySem.Str)) × (List (List Int)) × (List (List Int)))) : Option Int :=
  (some self.1).bind fun rv => some rv
def m_Picture_seen (self : (Int × (List (List Int × PySem.Str)) × (List (List Int)) × (List (List Int)))) : Option (List (List Int)) :=
  (some self.2.2.1).bind fun rv => some rv
def m_Picture_hidden (self : (Int × (List (List Int × PySem.Str)) × (List (List Int)) × (List (List Int)))) : Option (List (List Int)) :=
  (some self.2.2.2).bind fun rv => some rv
def m_show_picture (picture : (Int × (List (List Int × PySem.Str)) × (List (List Int)) × (List (List Int)))) : Option PySem.Str :=
  (o1 szG (oCons (o1 strI (o1 m_Picture_size (some picture))) (oCons (some ("seen" : PySem.Str)) (some [])))).bind fun (words : (List PySem.Str)) =>
  (o1 (oLc yes (fun (place : (List Int)) => (m_show_place place))) (o1 m_Picture_seen (some picture))).bind fun val => (extG words val).bind fun (words : (List PySem.Str)) =>
  (some ("hidden" : PySem.Str)).bind fun val => (appG words val).bind fun (words : (List PySem.Str)) =>
  (o1 (oLc yes (fun (place : (List Int)) => (m_show_place place))) (o1 m_Picture_hidden (some picture))).bind fun val => (extG words val).bind fun (words : (List PySem.Str)) =>
  (o2 joinG (some (" " : PySem.Str)) (some words)).bind fun rv => some rv
def m_Line_start (self : ((List Int) × (List Int))) : Option (List Int) :=
  (some self.1).bind fun rv => some rv
def m_Line_step (self : ((List Int) × (List Int))) : Option (List Int) :=
  (some self.2).bind fun rv => some rv
def m_show_line (line_ : ((List Int) × (List Int))) : Option PySem.Str :=
  (foldS PySem.Str.empty [(o1 fmtS (o1 m_show_place (o1 m_Line_start (some line_)))), (some (" by " : PySem.Str)), (o1 fmtS (o1 m_show_place (o1 m_Line_step (some line_))))]).bind fun rv => some rv
def m_plus (one : (List Int)) (other : (List Int)) : Option (List Int) :=
  (o1 (oLc yes (fun (k_ : Int) => (o2 addG (o2 ixG (some one) (some k_)) (o2 ixG (some other) (some k_))))) (o1 rngG (some (one.length : Int)))).bind fun rv => some rv
def m_determinant (rows : (List (List Int))) : Option Int :=
  (some (decide ((rows.length : Int) = 2))).bind fun b => if b = true then
    (o2 subG (o2 mulG (o2 ixG (o2 ixG (some rows) (some 0)) (some 0)) (o2 ixG (o2 ixG (some rows) (some 1)) (some 1))) (o2 mulG (o2 ixG (o2 ixG (some rows) (some 0)) (some 1)) (o2 ixG (o2 ixG (some rows) (some 1)) (some 0)))).bind fun rv => some rv
  else
    (some 0).bind fun (total : Int) =>
    (o1 rngG (some 3)).bind fun (l_ : List Int) => (oFold (γ := Int) (fun (k_ : Int) ((total) : Int) =>
        (oP2 (o2 modG (some (k_ + 1)) (some 3)) (o2 modG (some (k_ + 2)) (some 3))).bind fun ((left, right) : Int × Int) =>
      (o2 mulG (o2 ixG (o2 ixG (some rows) (some 0)) (some k_)) (o2 subG (o2 mulG (o2 ixG (o2 ixG (some rows) (some 1)) (some left)) (o2 ixG (o2 ixG (some rows) (some 2)) (some right))) (o2 mulG (o2 ixG (o2 ixG (some rows) (some 1)) (some right)) (o2 ixG (o2 ixG (some rows) (some 2)) (some left))))).bind fun by_ => (some (total + by_)).bind fun (total : Int) =>
      some (total)) l_ (total)).bind fun ((total) : Int) =>
    (some total).bind fun rv => some rv
def m_keeps_posts (rows : (List (List Int))) (size : Int) : Option Bool :=
  (some (!decide ((rows.length : Int) = size))).bind fun b => if b = true then
    (some false).bind fun rv => some rv
  else
    (some rows).bind fun (l_ : List (List Int)) => (oLoop (γ := Unit) (ρ := Bool) (fun (row : (List Int)) (() : Unit) =>
        (some (!decide ((row.length : Int) = size))).bind fun b => if b = true then
        (some false).bind fun rv => some (.ret rv)
      else
        some (.go ())) l_ ()).bind fun o_ => match o_ with
    | .ret r_ => some r_
    | .nx (() : Unit) =>
      (o2 inG (m_determinant rows) (some [1, (-1)])).bind fun rv => some rv
def m_image (rows : (List (List Int))) (place : (List Int)) : Option (List Int) :=
  (some []).bind fun (found : (List Int)) =>
  (some rows).bind fun (l_ : List (List Int)) => (oFold (γ := (List Int)) (fun (row : (List Int)) ((found) : (List Int)) =>
      (Option.map List.sum (o1 (oLc yes (fun (k_ : Int) => (o2 mulG (o2 ixG (some row) (some k_)) (o2 ixG (some place) (some k_))))) (o1 rngG (some (place.length : Int))))).bind fun val => (appG found val).bind fun (found : (List Int)) =>
    some (found)) l_ (found)).bind fun ((found) : (List Int)) =>
  (some found).bind fun rv => some rv
def m_Picture_shifted (self : (Int × (List (List Int × PySem.Str)) × (List (List Int)) × (List (List Int)))) (shift : (List Int)) : Option (Int × (List (List Int × PySem.Str)) × (List (List Int)) × (List (List Int))) :=
  (some (!decide ((shift.length : Int) = self.1))).bind fun b => if b = true then
    none
  else
    (o1 (oLc yes (fun (place : (List Int)) => (m_plus place shift))) (some self.2.2.1)).bind fun (seen : (List (List Int))) =>
    (o3 (fun a0 a1 a2 => (m_Picture___init__ (none, none, none, none) a0 a1 a2).bind fun r => finO4 r.2) (some self.1) (some seen) (o1 (oLc yes (fun (place : (List Int)) => (m_plus place shift))) (some self.2.2.2))).bind fun rv => some rv
def m_Picture_mapped (self : (Int × (List (List Int × PySem.Str)) × (List (List Int)) × (List (List Int)))) (rows : (List (List Int))) : Option (Int × (List (List Int × PySem.Str)) × (List (List Int)) × (List (List Int))) :=
  (oNot (m_keeps_posts rows self.1)).bind fun b => if b = true then
    none
  else
    (o1 (oLc yes (fun (place : (List Int)) => (m_image rows place))) (some self.2.2.1)).bind fun (seen : (List (List Int))) =>
    (o3 (fun a0 a1 a2 => (m_Picture___init__ (none, none, none, none) a0 a1 a2).bind fun r => finO4 r.2) (some self.1) (some seen) (o1 (oLc yes (fun (place : (List Int)) => (m_image rows place))) (some self.2.2.2))).bind fun rv => some rv
def m_Picture_least (self : (Int × (List (List Int × PySem.Str)) × (List (List Int)) × (List (List Int)))) : Option (Int × (List (List Int × PySem.Str)) × (List (List Int)) × (List (List Int))) :=
  (o2 catG (some self.2.2.1) (some self.2.2.2)).bind fun (places : (List (List Int))) =>
  (some (decide ((places.length : Int) = 0))).bind fun b => if b = true then
    (some self).bind fun rv => some rv
  else
    (some []).bind fun (shift : (List Int)) =>
    (o1 rngG (some self.1)).bind fun (l_ : List Int) => (oFold (γ := (List Int)) (fun (k_ : Int) ((shift) : (List Int)) =>
        (o1 negG (o1 minL (o1 (oLc yes (fun (place : (List Int)) => (o2 ixG (some place) (some k_)))) (some places)))).bind fun val => (appG shift val).bind fun (shift : (List Int)) =>
      some (shift)) l_ (shift)).bind fun ((shift) : (List Int)) =>
    (o2 m_Picture_shifted (some self) (some shift)).bind fun rv => some rv
def m_integer_of (word : PySem.Str) : Option (Option Int) :=
  (some word).bind fun (digits : PySem.Str) =>
  ((o2 (fun a b => some (Txt.startswith a b)) (some word) (some ("-" : PySem.Str))).bind fun b => if b = true then
      (oCutS (some word) (some (some 1)) (some none)).bind fun (digits : PySem.Str) =>
      some (digits)
    else
      some (digits)).bind fun ((digits) : PySem.Str) =>
  (oOr (some (decide (digits = ("" : PySem.Str)))) (o2 gtG (o1 lenS (some digits)) (some 60))).bind fun b => if b = true then
    (some none).bind fun rv => some rv
  else
    (Option.map signs (some digits)).bind fun (l_ : List PySem.Str) => (oLoop (γ := Unit) (ρ := (Option Int)) (fun (sign : PySem.Str) (() : Unit) =>
        (o2 hasNotS (some sign) (some ("0123456789" : PySem.Str))).bind fun b => if b = true then
        (some none).bind fun rv => some (.ret rv)
      else
        some (.go ())) l_ ()).bind fun o_ => match o_ with
    | .ret r_ => some r_
    | .nx (() : Unit) =>
      (oAnd (o2 eqG (o2 ixS (some digits) (some 0)) (some ("0" : PySem.Str))) (some (!decide (word = ("0" : PySem.Str))))).bind fun b => if b = true then
      (some none).bind fun rv => some rv
    else
      (Option.map some (o1 intS (some word))).bind fun rv => some rv
def m_place_of (word : PySem.Str) : Option (Option (List Int)) :=
  (oOr (o2 ltG (o1 lenS (some word)) (some 2)) (oOr (o2 neG (o2 ixS (some word) (some 0)) (some ("(" : PySem.Str))) (o2 neG (o2 ixS (some word) (some (-1))) (some (")" : PySem.Str))))).bind fun b => if b = true then
    (some none).bind fun rv => some rv
  else
    (o1 (oLc yes (fun (part : PySem.Str) => (m_integer_of part))) (o2 splitG (oCutS (some word) (some (some 1)) (some (some (-1)))) (some ("," : PySem.Str)))).bind fun (values : (List (Option Int))) =>
    (oOr (o2 notInG (some (values.length : Int)) (some [2, 3])) (o2 inDG (some none) (some values))).bind fun b => if b = true then
      (some none).bind fun rv => some rv
    else
      (Option.map some ((some values).bind allO)).bind fun rv => some rv
def m_ascend (places : (List (Option (List Int)))) (size : Int) : Option Bool :=
  (o1 rngG (some (places.length : Int))).bind fun (l_ : List Int) => (oLoop (γ := Unit) (ρ := Bool) (fun (k_ : Int) (() : Unit) =>
      (oOr (Option.map Option.isNone (o2 ixG (some places) (some k_))) (o2 neG (o1 lenG ((o2 ixG (some places) (some k_)).bind fun o => o)) (some size))).bind fun b => if b = true then
      (some false).bind fun rv => some (.ret rv)
    else
      (oAnd (some (decide (0 < k_))) (o2 (fun a b => some (geL a b)) ((o2 ixG (some places) (some (k_ - 1))).bind fun o => o) ((o2 ixG (some places) (some k_)).bind fun o => o))).bind fun b => if b = true then
        (some false).bind fun rv => some (.ret rv)
      else
        some (.go ())) l_ ()).bind fun o_ => match o_ with
  | .ret r_ => some r_
  | .nx (() : Unit) =>
    (some true).bind fun rv => some rv
def m_read_place (text : PySem.Str) : Option (Except Er (List Int)) :=
  (m_place_of text).bind fun (place : (Option (List Int))) =>
  (some place.isNone).bind fun b => if b = true then
    (some text).bind fun p_ => some (.error ⟨"Unreadable", .str p_⟩)
  else
    place.bind fun rv => some (.ok rv)
def m_read_picture (text : PySem.Str) : Option (Except Er (Int × (List (List Int × PySem.Str)) × (List (List Int)) × (List (List Int)))) :=
  (o2 splitG (some text) (some (" " : PySem.Str))).bind fun (words : (List PySem.Str)) =>
  (oOr (some (decide ((words.length : Int) < 3))) (oOr (o2 notInSG (o2 ixG (some words) (some 0)) (some [("2" : PySem.Str), ("3" : PySem.Str)])) (oOr (o2 neG (o2 ixG (some words) (some 1)) (some ("seen" : PySem.Str))) (o2 neG (o2 (fun l a => some (cntT l a)) (some words) (some ("hidden" : PySem.Str))) (some 1))))).bind fun b => if b = true then
    (some text).bind fun p_ => some (.error ⟨"Unreadable", .str p_⟩)
  else
    (o1 intS (o2 ixG (some words) (some 0))).bind fun (size : Int) =>
    (o2 idxDG (some words) (some ("hidden" : PySem.Str))).bind fun (end_ : Int) =>
    (o1 (oLc yes (fun (word : PySem.Str) => (m_place_of word))) (oCut (some words) (some (some 2)) (some (some end_)))).bind fun (seen : (List (Option (List Int)))) =>
    (o1 (oLc yes (fun (word : PySem.Str) => (m_place_of word))) (oCut (some words) (some (some (end_ + 1))) (some none))).bind fun (hidden : (List (Option (List Int)))) =>
    (oOr (oNot (m_ascend seen size)) (oNot (m_ascend hidden size))).bind fun b => if b = true then
      (some text).bind fun p_ => some (.error ⟨"Unreadable", .str p_⟩)
    else
      (o3 (fun a0 a1 a2 => (m_Picture___init__ (none, none, none, none) a0 a1 a2).bind fun r => finO4 r.2) (some size) ((some seen).bind allO) ((some hidden).bind allO)).bind fun rv => some (.ok rv)
def m_read_line (text : PySem.Str) : Option (Except Er ((List Int) × (List Int))) :=
  (o1 (oLc yes (fun (word : PySem.Str) => (m_place_of word))) (o2 splitG (some text) (some (" by " : PySem.Str)))).bind fun (places : (List (Option (List Int)))) =>
  (oOr (some (!decide ((places.length : Int) = 2))) (o2 inDG (some none) (some places))).bind fun b => if b = true then
    (some text).bind fun p_ => some (.error ⟨"Unreadable", .str p_⟩)
  else
    ((o2 (fun a0 a1 => mkX finO2 (m_Line___init__ (none, none) a0 a1)) ((o2 ixG (some places) (some 0)).bind fun o => o) ((o2 ixG (some places) (some 1)).bind fun o => o)).bind okG).bind fun rv => some (.ok rv)
def m_spring (cell : Int) (k_ : Int) : Option (List Int) :=
  (o2 modG (o1 some (o2 addG (o2 addG (o2 mulG (some cell) (some 2654435761)) (o2 mulG (some 40503) (some k_))) (some 977))) (some 618970019642690137449562111)).bind fun (state : Int) =>
  (o1 szG (oCons (o2 maxG (some 0) (some (cell - ((10 : Int) ^ 18)))) (oCons (some state) (oCons (some k_) (some []))))).bind fun rv => some rv
def m_sip (spring_here : (List Int)) (many : Int) : Option (Int × (List Int)) :=
  (o2 gtG (o2 ixG (some spring_here) (some 0)) (some 1)).bind fun b => if b = true then
    (o2 modG (o1 some (o2 ixG (some spring_here) (some 0))) (some many)).bind fun (found : Int) =>
    (o2 divG (o2 ixG (some spring_here) (some 0)) (some many)).bind fun val => (some 0).bind fun ix => (setG spring_here ix val).bind fun (spring_here : (List Int)) =>
    (some found).bind fun rv => some (rv, spring_here)
  else
    (o2 addG (o2 ixG (some spring_here) (some 2)) (some 1)).bind fun val => (some 2).bind fun ix => (setG spring_here ix val).bind fun (spring_here : (List Int)) =>
    (o2 addG (o2 addG (o2 mulG (o2 ixG (some spring_here) (some 1)) (o2 addG (o2 ixG (some spring_here) (some 1)) (some 48271))) (o2 mulG (some 69621) (o2 ixG (some spring_here) (some 2)))) (some 17)).bind fun (mixed : Int) =>
    (o2 modG (some mixed) (some 618970019642690137449562111)).bind fun val => (some 1).bind fun ix => (setG spring_here ix val).bind fun (spring_here : (List Int)) =>
    (o2 modG (o1 some (o2 divG (o2 ixG (some spring_here) (some 1)) (some 1009))) (some many)).bind fun rv => some (rv, spring_here)
def m_far (spring_here : (List Int)) (wide : Int) : Option (Int × (List Int)) :=
  (some 0).bind fun (found : Int) =>
  (o1 rngG (some 3)).bind fun (l_ : List Int) => (oFold (γ := Int × (List Int)) (fun (piece : Int) ((found, spring_here) : Int × (List Int)) =>
      (s2 (fun a b s => sK s (addG a b)) (sP (o2 mulG (some found) (some ((10 : Int) ^ 20))) spring_here) fun spring_here => (s1 (fun a0 s => m_sip s a0) (sP (some ((10 : Int) ^ 20)) spring_here))).bind fun ((found, spring_here) : Int × (List Int)) =>
    some (found, spring_here)) l_ (found, spring_here)).bind fun ((found, spring_here) : Int × (List Int)) =>
  (o2 addG (o2 subG (o2 modG (some found) (o2 subG (o2 mulG (some 2) (some wide)) (some 1))) (some wide)) (some 1)).bind fun rv => some (rv, spring_here)
def m_spots (spring_here : (List Int)) (axes : Int) (many : Int) (held : (List (List Int))) : Option ((List (List Int)) × (List Int)) :=
  (s1 (fun a0 s => m_sip s a0) (sP (some 4) spring_here)).bind fun ((shape, spring_here) : Int × (List Int)) =>
  (o2 ixG (some [2, 4, 41, ((10 : Int) ^ 39)]) (some shape)).bind fun (wide : Int) =>
  ((o1 rngG (some axes)).bind fun l => sLc (fun (k_ : Int) => fun spring_here => (s1 (fun a0 s => m_far s a0) (sP (some wide) spring_here))) l spring_here).bind fun ((base_, spring_here) : (List Int) × (List Int)) =>
  ((o1 rngG (some axes)).bind fun l => sLc (fun (k_ : Int) => fun spring_here => (s2 (fun a b s => sK s (subG a b)) (s1 (fun a0 s => m_sip s a0) (sP (some 7) spring_here)) fun spring_here => (sP (some 3) spring_here))) l spring_here).bind fun ((step, spring_here) : (List Int) × (List Int)) =>
  (some []).bind fun (taken : (List (List Int × Bool))) =>
  (some held).bind fun (l_ : List (List Int)) => (oFold (γ := (List (List Int × Bool))) (fun (spot : (List Int)) ((taken) : (List (List Int × Bool))) =>
      (some true).bind fun val => (some spot).bind fun ix => (dPutG taken ix val).bind fun (taken : (List (List Int × Bool))) =>
    some (taken)) l_ (taken)).bind fun ((taken) : (List (List Int × Bool))) =>
  (some []).bind fun (found : (List (List Int))) =>
  (o1 rngG (some many)).bind fun (l_ : List Int) => (oFold (γ := (List Int) × (List (List Int × Bool)) × (List (List Int))) (fun (count : Int) ((spring_here, taken, found) : (List Int) × (List (List Int × Bool)) × (List (List Int))) =>
      (o1 (oLc yes (fun (k_ : Int) => (o2 addG (o2 ixG (some base_) (some k_)) (o2 mulG (o2 ixG (some step) (some k_)) (some count))))) (o1 rngG (some axes))).bind fun (made : (List Int)) =>
    ((some ((decide (shape < 3)) && (decide (many < 12)))).bind fun b => if b = true then
        ((o1 rngG (some axes)).bind fun l => sLc (fun (k_ : Int) => fun spring_here => (s2 (fun a b s => sK s (addG a b)) (s2 (fun a b s => sK s (subG a b)) (s1 (fun a0 s => m_sip s a0) (sP (o2 subG (o2 mulG (some 2) (some wide)) (some 1)) spring_here)) fun spring_here => (sP (some wide) spring_here)) fun spring_here => (sP (some 1) spring_here))) l spring_here).bind fun ((made, spring_here) : (List Int) × (List Int)) =>
        some (made, spring_here)
      else
        some (made, spring_here)).bind fun ((made, spring_here) : (List Int) × (List Int)) =>
    (o2 dNotInG (some made) (some taken)).bind fun b => if b = true then
      (some true).bind fun val => (some made).bind fun ix => (dPutG taken ix val).bind fun (taken : (List (List Int × Bool))) =>
      (some made).bind fun val => (appG found val).bind fun (found : (List (List Int))) =>
      some (spring_here, taken, found)
    else
      some (spring_here, taken, found)) l_ (spring_here, taken, found)).bind fun ((spring_here, taken, found) : (List Int) × (List (List Int × Bool)) × (List (List Int))) =>
  (some found).bind fun rv => some (rv, spring_here)
def m_parts (spring_here : (List Int)) (axes : Int) (most : Int) : Option (((List (List Int)) × (List (List Int))) × (List Int)) :=
  (s3 (fun a0 a1 a2 s => m_spots s a0 a1 a2) (sP (some axes) spring_here) (fun spring_here => (s1 (fun a0 s => m_sip s a0) (sP (some (most + 1)) spring_here))) (fun spring_here => (sP (some []) spring_here))).bind fun ((lit, spring_here) : (List (List Int)) × (List Int)) =>
  (s2 (fun a b s => some ((a, b), s)) (sP (some lit) spring_here) fun spring_here => (s3 (fun a0 a1 a2 s => m_spots s a0 a1 a2) (sP (some axes) spring_here) (fun spring_here => (s1 (fun a0 s => m_sip s a0) (sP (some (most + 1)) spring_here))) (fun spring_here => (sP (some lit) spring_here))))
def m_matrix (spring_here : (List Int)) (axes : Int) : Option ((List (List Int)) × (List Int)) :=
  (o1 (oLc yes (fun (k_ : Int) => (o1 (oLc yes (fun (j : Int) => (some (Mw.b2i (decide (k_ = j)))))) (o1 rngG (some axes))))) (o1 rngG (some axes))).bind fun (grid : (List (List Int))) =>
  (s1 (fun a s => sK s (rngG a)) (s1 (fun a0 s => m_sip s a0) (sP (some 8) spring_here))).bind fun ((l_, spring_here) : List Int × (List Int)) => (oFold (γ := (List Int) × (List (List Int))) (fun (step : Int) ((spring_here, grid) : (List Int) × (List (List Int))) =>
      (s1 (fun a0 s => m_sip s a0) (sP (some axes) spring_here)).bind fun ((into, spring_here) : Int × (List Int)) =>
    (s2 (fun a b s => sK s (modG a b)) (s2 (fun a b s => sK s (addG a b)) (sP (some (into + 1)) spring_here) fun spring_here => (s1 (fun a0 s => m_sip s a0) (sP (some (axes - 1)) spring_here))) fun spring_here => (sP (some axes) spring_here)).bind fun ((out, spring_here) : Int × (List Int)) =>
    (s2 (fun a b s => sK s (ixG a b)) (s1 (fun a s => sK s (szG a)) (sCons (s2 (fun a b s => sK s (subG a b)) (s1 (fun a0 s => m_sip s a0) (sP (some 7) spring_here)) fun spring_here => (sP (some 3) spring_here)) fun spring_here => (sCons (s2 (fun a b s => sK s (subG a b)) (s1 (fun a0 s => m_sip s a0) (sP (some 99) spring_here)) fun spring_here => (sP (some 49) spring_here)) fun spring_here => (some ([], spring_here))))) fun spring_here => (s1 (fun a0 s => m_sip s a0) (sP (some 2) spring_here))).bind fun ((times, spring_here) : Int × (List Int)) =>
    (o1 (oLc yes (fun (k_ : Int) => (o2 addG (o2 ixG (o2 ixG (some grid) (some into)) (some k_)) (o2 mulG (some times) (o2 ixG (o2 ixG (some grid) (some out)) (some k_)))))) (o1 rngG (some axes))).bind fun (made : (List Int)) =>
    ((o2 eqDG (o1 (oLc (fun (value : Int) => (o2 gtG (o2 maxG (some value) (some (0 - value))) (some 333))) (fun (value : Int) => (some value))) (some made)) (some [])).bind fun b => if b = true then
        (some made).bind fun val => (some into).bind fun ix => (setG grid ix val).bind fun (grid : (List (List Int))) =>
        some (grid)
      else
        some (grid)).bind fun ((grid) : (List (List Int))) =>
    ((s2 (fun a b s => sK s (eqG a b)) (s1 (fun a0 s => m_sip s a0) (sP (some 3) spring_here)) fun spring_here => (sP (some 0) spring_here)).bind fun ((b, spring_here) : Bool × (List Int)) => if b = true then
        (oP2 (o2 ixG (some grid) (some out)) (o2 ixG (some grid) (some into))).bind fun val => (setG grid into val.1).bind fun (grid : (List (List Int))) => (setG grid out val.2).bind fun (grid : (List (List Int))) =>
        some (grid, spring_here)
      else
        some (grid, spring_here)).bind fun ((grid, spring_here) : (List (List Int)) × (List Int)) =>
    (s2 (fun a b s => sK s (eqG a b)) (s1 (fun a0 s => m_sip s a0) (sP (some 3) spring_here)) fun spring_here => (sP (some 0) spring_here)).bind fun ((b, spring_here) : Bool × (List Int)) => if b = true then
      (o1 (oLc yes (fun (value : Int) => (some (0 - value)))) (o2 ixG (some grid) (some into))).bind fun val => (some into).bind fun ix => (setG grid ix val).bind fun (grid : (List (List Int))) =>
      some (spring_here, grid)
    else
      some (spring_here, grid)) l_ (spring_here, grid)).bind fun ((spring_here, grid) : (List Int) × (List (List Int))) =>
  (some grid).bind fun rv => some (rv, spring_here)
def m_line_ (spring_here : (List Int)) (axes : Int) : Option (((List Int) × (List Int)) × (List Int)) :=
  (s2 (fun a b s => sK s (ixG a b)) (sP (some [2, 9, ((10 : Int) ^ 19)]) spring_here) fun spring_here => (s1 (fun a0 s => m_sip s a0) (sP (some 3) spring_here))).bind fun ((wide, spring_here) : Int × (List Int)) =>
  (s1 (fun a0 s => m_sip s a0) (sP (some axes) spring_here)).bind fun ((spot, spring_here) : Int × (List Int)) =>
  ((o1 rngG (some axes)).bind fun l => sLc (fun (k_ : Int) => fun spring_here => (s1 (fun a0 s => m_far s a0) (sP (some wide) spring_here))) l spring_here).bind fun ((ahead, spring_here) : (List Int) × (List Int)) =>
  (s2 (fun a b s => some ((a, b), s)) (s2 (fun a b s => sK s (subG a b)) (sP (some 1) spring_here) fun spring_here => (s2 (fun a b s => sK s (mulG a b)) (sP (some 2) spring_here) fun spring_here => (s1 (fun a0 s => m_sip s a0) (sP (some 2) spring_here)))) fun spring_here => (sP (some spot) spring_here)).bind fun ((val, ix), spring_here) => (setG ahead ix val).bind fun (ahead : (List Int)) =>
  (s1 (fun a0 s => m_far s a0) (s2 (fun a b s => sK s (ixG a b)) (sP (some [2, 9, ((10 : Int) ^ 19)]) spring_here) fun spring_here => (s1 (fun a0 s => m_sip s a0) (sP (some 3) spring_here)))).bind fun ((times, spring_here) : Int × (List Int)) =>
  (o1 (oLc yes (fun (value : Int) => (o2 mulG (some times) (some value)))) (some ahead)).bind fun (first : (List Int)) =>
  (s2 (fun a b s => sK s (ixG a b)) (sP (some [1, 7, 210, 30030]) spring_here) fun spring_here => (s1 (fun a0 s => m_sip s a0) (sP (some 4) spring_here))).bind fun ((apart, spring_here) : Int × (List Int)) =>
  (o1 rngG (some axes)).bind fun (l_ : List Int) => (oFold (γ := (List Int) × (List Int)) (fun (k_ : Int) ((first, spring_here) : (List Int) × (List Int)) =>
      (some (!decide (k_ = spot))).bind fun b => if b = true then
      (s2 (fun a b s => some ((a, b), s)) (s2 (fun a b s => sK s (addG a b)) (sP (o2 ixG (some first) (some k_)) spring_here) fun spring_here => (s2 (fun a b s => sK s (mulG a b)) (sP (some apart) spring_here) fun spring_here => (s2 (fun a b s => sK s (subG a b)) (s1 (fun a0 s => m_sip s a0) (sP (some 3) spring_here)) fun spring_here => (sP (some 1) spring_here)))) fun spring_here => (sP (some k_) spring_here)).bind fun ((val, ix), spring_here) => (setG first ix val).bind fun (first : (List Int)) =>
      some (first, spring_here)
    else
      some (first, spring_here)) l_ (first, spring_here)).bind fun ((first, spring_here) : (List Int) × (List Int)) =>
  (some (first, ahead)).bind fun rv => some (rv, spring_here)
def m_again (picture : (Int × (List (List Int × PySem.Str)) × (List (List Int)) × (List (List Int)))) : Option (Option (Int × (List (List Int × PySem.Str)) × (List (List Int)) × (List (List Int)))) :=
  (o2 catG (o1 szG (oCons (o1 strI (o1 m_Picture_size (some picture))) (oCons (some ("seen" : PySem.Str)) (some [])))) (o1 (oLc yes (fun (spot : (List Int)) => (m_show_place spot))) (o1 m_Picture_seen (some picture)))).bind fun (words : (List PySem.Str)) =>
  (o2 catG (o2 catG (some words) (some [("hidden" : PySem.Str)])) (o1 (oLc yes (fun (spot : (List Int)) => (m_show_place spot))) (o1 m_Picture_hidden (some picture)))).bind fun (words : (List PySem.Str)) =>
  (m_show_picture picture).bind fun (text : PySem.Str) =>
  (o2 neG (some text) (o2 joinG (some (" " : PySem.Str)) (some words))).bind fun b => if b = true then
    (some none).bind fun rv => some rv
  else
    ((m_read_picture text).bind okG).bind fun (again_here : (Int × (List (List Int × PySem.Str)) × (List (List Int)) × (List (List Int)))) =>
    (oOr (oNot (o2 m_Picture___eq__ (some again_here) (some picture))) (oOr (o2 neG (m_show_picture again_here) (some text)) (o2 neG (o1 (lenO m_Picture___len__) (some again_here)) (o1 (lenO m_Picture___len__) (some picture))))).bind fun b => if b = true then
      (some none).bind fun rv => some rv
    else
      (o2 neDG (o1 (oLc (fun (word : PySem.Str) => (some (!decide (word = ("hidden" : PySem.Str))))) (fun (word : PySem.Str) => ((m_read_place word).bind okG))) (oCut (some words) (some (some 2)) (some none))) (o2 catG (o1 m_Picture_seen (some picture)) (o1 m_Picture_hidden (some picture)))).bind fun b => if b = true then
        (some none).bind fun rv => some rv
      else
        (some (some again_here)).bind fun rv => some rv
def m_joined (one : (Int × (List (List Int × PySem.Str)) × (List (List Int)) × (List (List Int)))) (other : (Int × (List (List Int × PySem.Str)) × (List (List Int)) × (List (List Int)))) : Option (PySem.Str ⊕ (List Int)) :=
  (some ()).bind fun (answer : Unit) =>
  ((((m_Picture___or__ one other).map fun r => r.map Sum.inl).bind fun r_ => match r_ with
    | .error er => some (.error (er, ()))
    | .ok (answer : ((Int × (List (List Int × PySem.Str)) × (List (List Int)) × (List (List Int))) ⊕ (List Int))) =>
    some (.ok (answer)) : Option (Except (Er × (Unit)) (((Int × (List (List Int × PySem.Str)) × (List (List Int)) × (List (List Int))) ⊕ (List Int))))).bind fun r_ => match r_ with
    | .ok st_ => some st_
    | .error (e_, ()) => if subE e_.cls "Conflict" = true then ((Option.map Sum.inr (Pay.toTup e_.pay)).bind fun (answer : ((Int × (List (List Int × PySem.Str)) × (List (List Int)) × (List (List Int))) ⊕ (List Int))) =>
        some (answer)) else none).bind fun ((answer) : ((Int × (List (List Int × PySem.Str)) × (List (List Int)) × (List (List Int))) ⊕ (List Int))) =>
  (Option.map (Sum.elim (fun _ => true) (fun _ => false)) (some answer)).bind fun b => if b = true then
    (Option.map Sum.inl (o1 m_show_picture ((some answer).bind Sum.getLeft?))).bind fun rv => some rv
  else
    (Option.map Sum.inr ((some answer).bind Sum.getRight?)).bind fun rv => some rv
def m_by_door (door : Int) (text : PySem.Str) : Option (Except Er ((List Int) ⊕ ((Int × (List (List Int × PySem.Str)) × (List (List Int)) × (List (List Int))) ⊕ ((List Int) × (List Int))))) :=
  (some (decide (door = 0))).bind fun b => if b = true then
    ((m_read_place text).map fun r => r.map Sum.inl).bind fun rx => some rx
  else
    (some (decide (door = 1))).bind fun b => if b = true then
      (Option.map (Except.map Sum.inr) (Option.map (Except.map Sum.inl) (m_read_picture text))).bind fun rx => some rx
    else
      (Option.map (Except.map Sum.inr) (Option.map (Except.map Sum.inr) (m_read_line text))).bind fun rx => some rx
def m_unread (door : Int) (text : PySem.Str) : Option Bool :=
  (some none).bind fun (caught : (Option Er)) =>
  (((m_by_door door text).bind fun r_ => match r_ with
    | .error er => some (.error (er, (caught)))
    | .ok _ =>
    some (.ok (caught)) : Option (Except (Er × ((Option Er))) ((Option Er)))).bind fun r_ => match r_ with
    | .ok st_ => some st_
    | .error (e_, (caught)) => if subE e_.cls "Unreadable" = true then ((some (some e_)).bind fun (caught : (Option Er)) =>
        some (caught)) else none).bind fun ((caught) : (Option Er)) =>
  (oAnd (some caught.isSome) (o2 eqG ((Option.map Er.pay caught).bind Pay.toStr) (some text))).bind fun rv => some rv
def m_pair_right (one : (Int × (List (List Int × PySem.Str)) × (List (List Int)) × (List (List Int)))) (other : (Int × (List (List Int × PySem.Str)) × (List (List Int)) × (List (List Int)))) (grid : (List (List Int))) (vector : (List Int)) : Option Bool :=
  (oP2 (m_again one) (m_again other)).bind fun ((first, second) : (Option (Int × (List (List Int × PySem.Str)) × (List (List Int)) × (List (List Int)))) × (Option (Int × (List (List Int × PySem.Str)) × (List (List Int)) × (List (List Int))))) =>
  (oOr (some first.isNone) (oOr (some second.isNone) (o2 neU (Option.map (Sum.elim PyData.str (fun (l : (List Int)) => PyData.tuple (l.map PyData.int))) (o2 m_joined first second)) (Option.map (Sum.elim PyData.str (fun (l : (List Int)) => PyData.tuple (l.map PyData.int))) (m_joined one other))))).bind fun b => if b = true then
    (some false).bind fun rv => some rv
  else
    (oOr (o2 neG (o1 m_show_picture (o2 m_Picture___sub__ first second)) (o1 m_show_picture (o2 m_Picture___sub__ (some one) (some other)))) (oNot (o2 m_Picture___eq__ (o2 m_Picture___sub__ first (some other)) (o2 m_Picture___sub__ (some one) second)))).bind fun b => if b = true then
      (some false).bind fun rv => some rv
    else
      (o2 neG (o1 m_show_picture (o2 m_Picture_shifted first (some vector))) (o1 m_show_picture (o2 m_Picture_shifted (some one) (some vector)))).bind fun b => if b = true then
        (some false).bind fun rv => some rv
      else
        (oOr (oNot (o2 m_Picture___eq__ (o2 m_Picture_mapped first (some grid)) (o2 m_Picture_mapped (some one) (some grid)))) (o2 neG (o1 m_show_picture (o1 m_Picture_least second)) (o1 m_show_picture (o1 m_Picture_least (some other))))).bind fun b => if b = true then
          (some false).bind fun rv => some rv
        else
          (oAnd (o2 eqG (o2 eqG (m_show_picture one) (m_show_picture other)) (o2 m_Picture___eq__ (some one) (some other))) (o2 eqG (o2 m_Picture___eq__ first second) (o2 m_Picture___eq__ (some one) (some other)))).bind fun rv => some rv
def m_right (spring_here : (List Int)) : Option (Bool × (List Int)) :=
  (s2 (fun a b s => sK s (addG a b)) (sP (some 2) spring_here) fun spring_here => (s1 (fun a0 s => m_sip s a0) (sP (some 2) spring_here))).bind fun ((axes, spring_here) : Int × (List Int)) =>
  (s2 (fun a0 a1 s => m_parts s a0 a1) (sP (some axes) spring_here) (fun spring_here => (sP (some 7) spring_here))).bind fun (((lit, dim), spring_here) : ((List (List Int)) × (List (List Int))) × (List Int)) =>
  (s2 (fun a0 a1 s => m_parts s a0 a1) (sP (some axes) spring_here) (fun spring_here => (sP (some 7) spring_here))).bind fun (((left, right_here), spring_here) : ((List (List Int)) × (List (List Int))) × (List Int)) =>
  ((s2 (fun a b s => sK s (eqG a b)) (s1 (fun a0 s => m_sip s a0) (sP (some 2) spring_here)) fun spring_here => (sP (some 0) spring_here)).bind fun ((b, spring_here) : Bool × (List Int)) => if b = true then
      (o2 catG (some lit) (o1 (oLc (fun (spot : (List Int)) => (o2 notInDG (some spot) (o2 catG (some lit) (some dim)))) (fun (spot : (List Int)) => (some spot))) (some left))).bind fun (left : (List (List Int))) =>
      ((some dim).bind fun l => sLcT (fun (spot : (List Int)) => fun spring_here => (s2 (fun a b s => sK s (gtG a b)) (s1 (fun a0 s => m_sip s a0) (sP (some 8) spring_here)) fun spring_here => (sP (some 0) spring_here))) (fun (spot : (List Int)) => fun spring_here => (sP (some spot) spring_here)) l spring_here).bind fun ((right_here, spring_here) : (List (List Int)) × (List Int)) =>
      some (left, right_here, spring_here)
    else
      some (left, right_here, spring_here)).bind fun ((left, right_here, spring_here) : (List (List Int)) × (List (List Int)) × (List Int)) =>
  (o3 (fun a0 a1 a2 => (m_Picture___init__ (none, none, none, none) a0 a1 a2).bind fun r => finO4 r.2) (some axes) (some lit) (some dim)).bind fun (one : (Int × (List (List Int × PySem.Str)) × (List (List Int)) × (List (List Int)))) =>
  (o3 (fun a0 a1 a2 => (m_Picture___init__ (none, none, none, none) a0 a1 a2).bind fun r => finO4 r.2) (some axes) (some left) (some right_here)).bind fun (other : (Int × (List (List Int × PySem.Str)) × (List (List Int)) × (List (List Int)))) =>
  (s1 (fun a0 s => m_matrix s a0) (sP (some axes) spring_here)).bind fun ((grid, spring_here) : (List (List Int)) × (List Int)) =>
  ((o1 rngG (some axes)).bind fun l => sLc (fun (k_ : Int) => fun spring_here => (s1 (fun a0 s => m_far s a0) (s2 (fun a b s => sK s (ixG a b)) (sP (some [2, 9, ((10 : Int) ^ 39)]) spring_here) fun spring_here => (s1 (fun a0 s => m_sip s a0) (sP (some 3) spring_here))))) l spring_here).bind fun ((vector, spring_here) : (List Int) × (List Int)) =>
  (oOr (oNot (m_pair_right one other grid vector)) (oNot (m_pair_right other one grid vector))).bind fun b => if b = true then
    (some false).bind fun rv => some (rv, spring_here)
  else
    (s1 (fun a0 s => m_line_ s a0) (sP (some axes) spring_here)).bind fun (((first, ahead), spring_here) : ((List Int) × (List Int)) × (List Int)) =>
    ((mkX finO2 (m_Line___init__ (none, none) first ahead)).bind okG).bind fun (line_here : ((List Int) × (List Int))) =>
    (m_show_line line_here).bind fun (text : PySem.Str) =>
    (oOr (oNot (o2 m_Line___eq__ ((m_read_line text).bind okG) (some line_here))) (o2 neG (o1 m_show_line ((m_read_line text).bind okG)) (some text))).bind fun b => if b = true then
      (some false).bind fun rv => some (rv, spring_here)
    else
      (oOr (oNot (m_unread 0 text)) (oOr (oNot (m_unread 1 text)) (oNot (o2 m_unread (some 0) (m_show_picture one))))).bind fun b => if b = true then
        (some false).bind fun rv => some (rv, spring_here)
      else
        (oAnd (o2 m_unread (some 2) (m_show_picture one)) (oAnd (o2 m_unread (some 1) (m_show_place first)) (o2 m_unread (some 2) (m_show_place first)))).bind fun rv => some (rv, spring_here)
def m_law (script : (List Int)) : Option Bool :=
  (o2 catG (oCut (some script) (some none) (some (some 8))) (o2 repG (some [0]) (some (Mw.b2i (decide ((script.length : Int) = 0)))))).bind fun (cells : (List Int)) =>
  (o1 rngG (some (cells.length : Int))).bind fun (l_ : List Int) => (oLoop (γ := Unit) (ρ := Bool) (fun (k_ : Int) (() : Unit) =>
      (oNot ((o2 m_spring (o2 ixG (some cells) (some k_)) (some k_)).bind fun t => (m_right t).bind fun r => some r.1)).bind fun b => if b = true then
      (some false).bind fun rv => some (.ret rv)
    else
      some (.go ())) l_ ()).bind fun o_ => match o_ with
  | .ret r_ => some r_
  | .nx (() : Unit) =>
    (some true).bind fun rv => some rv
end Mi

set_option maxHeartbeats 2000000
namespace Pl
open PySem Mw Mi
theorem gcdL_eq {l m : List Int} (h : ∀ d : Int, (∀ v ∈ l, d ∣ v) ↔ ∀ v ∈ m, d ∣ v) : gcdL l = gcdL m := by
  apply Nat.dvd_antisymm
  · exact dvd_gcdL ((h _).mp fun v hv => gcdL_dvd hv)
  · exact dvd_gcdL ((h _).mpr fun v hv => gcdL_dvd hv)
/-! lists by index -/
theorem getD_at {l : List (List Int)} {i : Nat} (h : i < l.length) : l.getD i [] = l[i] := by simp [h]
/-! sorted, dicts -/
theorem sortG_s {l : List (List Int)} {n : Nat} (h : ∀ p ∈ l, p.length = n) (h0 : 0 < n) (hl : l.length ≤ 16000000) : sortG l = some (srtT l) := if_pos ⟨List.all_eq_true.mpr fun p hp => by
  have := h p hp
  cases p with
  | nil => simp at this; omega
  | cons a p => rfl, hl⟩
theorem dGet_none {β : Type} {ds : List (List Int × β)} {k : List Int} : dGet ds k = none ↔ ∀ d ∈ ds, d.1 ≠ k := by
  unfold dGet
  rw [Option.map_eq_none_iff, List.find?_eq_none]
  exact ⟨fun h d hd e => h d hd (decide_eq_true e), fun h d hd e => h d hd (of_decide_eq_true e)⟩
theorem dInG_no {β : Type} {ds : List (List Int × β)} {k : List Int} (h : ∀ d ∈ ds, d.1 ≠ k) : dInG k ds = some false := by
  unfold dInG
  rw [dGet_none.mpr h]
  rfl
theorem dPutG_new {β : Type} {ds : List (List Int × β)} {k : List Int} {x : β} (h : ∀ d ∈ ds, d.1 ≠ k) (hl : ds.length ≤ 16000000) : dPutG ds k x = some (ds ++ [(k, x)]) := by
  unfold dPutG dPut
  rw [if_pos hl, if_neg]
  intro e
  obtain ⟨d, hd, e⟩ := List.any_eq_true.mp e
  exact h d hd (of_decide_eq_true e)
theorem fill_ok {β : Type} {f : List Int → List (List Int × β) → Option (List (List Int × β))} {w : β} {n : Nat} (hf : ∀ p ds, p.length = n → (∀ d ∈ ds, d.1 ≠ p) → ds.length ≤ 16000000 → f p ds = some (ds ++ [(p, w)])) : ∀ (l : List (List Int)) (ds : List (List Int × β)), (∀ p ∈ l, p.length = n) → l.Nodup → (∀ p ∈ l, ∀ d ∈ ds, d.1 ≠ p) → ds.length + l.length ≤ 16000000 → oFold f l ds = some (ds ++ l.map fun p => (p, w))
  | [], ds, _, _, _, _ => by rw [fold_nil]; simp
  | a :: l, ds, h1, h2, h3, h4 => by
    rw [List.length_cons] at h4
    obtain ⟨n1, n2⟩ := List.nodup_cons.mp h2
    rw [fold_cons, hf a ds (h1 a List.mem_cons_self) (h3 a List.mem_cons_self) (by omega), bind_s, fill_ok hf l _ (fun p hp => h1 p (List.mem_cons_of_mem _ hp)) n2 (fun p hp d hd => ?_) (by simp; omega)]
    · simp
    · rcases List.mem_append.mp hd with hd | hd
      · exact h3 p (List.mem_cons_of_mem _ hp) d hd
      · have e := List.mem_singleton.mp hd
        subst e
        exact fun e => n1 (by have e : a = p := e; rw [e]; exact hp)
/-! the picture -/
def wds (seen hidden : List (List Int)) : List (List Int × Str) := seen.map (fun p => (p, ("seen" : Str))) ++ hidden.map fun p => (p, ("hidden" : Str))
def pic (n : Int) (seen hidden : List (List Int)) : Int × (List (List Int × PySem.Str)) × (List (List Int)) × (List (List Int)) := (n, wds seen hidden, srtT seen, srtT hidden)
structure Pc (n : Nat) (seen hidden : List (List Int)) : Prop where
  two : n = 2 ∨ n = 3
  s : ∀ p ∈ seen, p.length = n
  h : ∀ p ∈ hidden, p.length = n
  nd : (seen ++ hidden).Nodup
  le : seen.length + hidden.length ≤ 1000000
theorem size_ok {n : Nat} (h : n = 2 ∨ n = 3) : notInG (n : Int) [2, 3] = some false := by
  rcases h with rfl | rfl
  all_goals rfl
theorem init_ok {n : Nat} {seen hidden : List (List Int)} (c : Pc n seen hidden) : m_Picture___init__ (none, none, none, none) (n : Int) seen hidden = some ((), (some (n : Int), some (wds seen hidden), some (srtT seen), some (srtT hidden))) := by
  obtain ⟨h1, h2, h3⟩ := List.nodup_append.mp c.nd
  have hl := c.le
  unfold m_Picture___init__
  simp only [o2_s, size_ok c.two, bind_s, Bool.false_eq_true, if_false, fold_cons, fold_nil]
  have hf : ∀ (w : Str) (p : List Int) (ds : List (List Int × Str)), p.length = n → (∀ d ∈ ds, d.1 ≠ p) → ds.length ≤ 16000000 → (fun (place : List Int) (words : List (List Int × Str)) => if (!decide ((place.length : Int) = (n : Int))) = true then none else (dInG place words).bind fun b => if b = true then none else (dPutG words place w).bind fun words => some words) p ds = some (ds ++ [(p, w)]) := by
    intro w p ds e1 e2 e3
    show (if (!decide ((p.length : Int) = (n : Int))) = true then none else (dInG p ds).bind fun b => if b = true then none else (dPutG ds p w).bind fun words => some words) = _
    rw [if_neg (by rw [e1]; simp), dInG_no e2, bind_s, if_neg Bool.false_ne_true, dPutG_new e2 e3, bind_s]
  rw [fill_ok (hf "seen") seen [] c.s h1 (fun _ _ _ hd => by simp at hd) (by simp; omega)]
  simp only [bind_s, List.nil_append, fold_cons, fold_nil]
  rw [fill_ok (hf "hidden") hidden _ c.h h2 (fun p hp d hd e => ?_) (by simp; omega)]
  · have n0 : 0 < n := by have := c.two; omega
    simp only [bind_s, o1_s, sortG_s c.s n0 (by omega), sortG_s c.h n0 (by omega), put4_0, put4_1, put4_2, put4_3]
    rfl
  · obtain ⟨q, hq, rfl⟩ := List.mem_map.mp hd
    exact h3 q hq p hp e
theorem pic_ok {n : Nat} {seen hidden : List (List Int)} (c : Pc n seen hidden) : ((m_Picture___init__ (none, none, none, none) (n : Int) seen hidden).bind fun r => finO4 r.2) = some (pic n seen hidden) := by
  rw [init_ok c]
  rfl
theorem cd_ok (a b : Int) : m_common_divisor a b = some ((Nat.gcd a.natAbs b.natAbs : Nat) : Int) := by
  unfold m_common_divisor
  simp only [abs_if, oP2_s, bind_s]
  rw [euclid (fun a b => rfl) (fun a b hb => by simp only [o2_s, modG_s hb, oP2_s, bind_s]) b.natAbs a.natAbs _ (by simp)]
  rfl
theorem div_ok (l : List Int) : m_divisor_of l = some (gcdL l : Int) := by
  unfold m_divisor_of
  simp only [bind_s, cd_ok]
  rw [fold_pure (h := fun (g : Int) v => ((Nat.gcd g.natAbs v.natAbs : Nat) : Int)) (fun _ => True) (fun a g _ => rfl) l 0 (fun _ _ => trivial)]
  refine congrArg some ?_
  unfold gcdL
  have q : ∀ (l : List Int) (n : Nat), l.foldl (fun (g : Int) v => ((Nat.gcd g.natAbs v.natAbs : Nat) : Int)) (n : Int) = ((l.foldl (fun g v => Nat.gcd g v.natAbs) n : Nat) : Int) := by
    intro l
    induction l with
    | nil => intro n; rfl
    | cons a l ih => intro n; exact ih _
  exact q l 0
abbrev pl (p s : List Int) : List Int := List.zipWith (fun a b => a + b) p s
theorem plus_ok {p s : List Int} (h : p.length = s.length) (hl : p.length ≤ 1000) : m_plus p s = some (pl p s) := by
  unfold m_plus
  simp only [o1_s]
  rw [rngG_s (by omega) (by omega), o1_s, lc_rng (h := fun i => p.getD i 0 + s.getD i 0) (by omega) fun i hi => by rw [o2_s, ixG_i hi, o2_s, ixG_i (h ▸ hi), o2_s, addG_s]; simp [hi, h ▸ hi], bind_s]
  exact congrArg some (range_zip (g := fun a b => a + b) h fun i h1 h2 => by simp [h1, h2])
/-! pictures moved -/
theorem nd_mapL {f : List Int → List Int} : ∀ {l : List (List Int)}, l.Nodup → (∀ i ∈ l, ∀ j ∈ l, f i = f j → i = j) → (l.map f).Nodup
  | [], _, _ => List.nodup_nil
  | a :: l, h, q => by
    rw [List.map_cons, List.nodup_cons]
    obtain ⟨h1, h2⟩ := List.nodup_cons.mp h
    refine ⟨fun hm => ?_, nd_mapL h2 fun i hi j hj => q i (List.mem_cons_of_mem _ hi) j (List.mem_cons_of_mem _ hj)⟩
    obtain ⟨b, hb, e⟩ := List.mem_map.mp hm
    have := q b (List.mem_cons_of_mem _ hb) a List.mem_cons_self e
    exact h1 (this ▸ hb)
theorem Pc.srt {n : Nat} {s h : List (List Int)} (c : Pc n s h) : Pc n (srtT s) (srtT h) := ⟨c.two, fun p hp => c.s p ((srtT_perm s).mem_iff.mp hp), fun p hp => c.h p ((srtT_perm h).mem_iff.mp hp), ((srtT_perm s).append (srtT_perm h)).nodup_iff.mpr c.nd, by
  have := c.le
  rw [(srtT_perm s).length_eq, (srtT_perm h).length_eq]
  exact this⟩
theorem Pc.map {n : Nat} {s h : List (List Int)} (c : Pc n s h) {f : List Int → List Int} (fi : ∀ p q, p.length = n → q.length = n → f p = f q → p = q) (fl : ∀ p, p.length = n → (f p).length = n) : Pc n (s.map f) (h.map f) := ⟨c.two, fun p hp => by
    obtain ⟨q, hq, rfl⟩ := List.mem_map.mp hp
    exact fl q (c.s q hq), fun p hp => by
    obtain ⟨q, hq, rfl⟩ := List.mem_map.mp hp
    exact fl q (c.h q hq), by
    rw [← List.map_append]
    have g : ∀ p ∈ s ++ h, p.length = n := fun p hp => by
      rcases List.mem_append.mp hp with hp | hp
      · exact c.s p hp
      · exact c.h p hp
    exact nd_mapL c.nd fun i hi j hj e => fi i j (g i hi) (g j hj) e, by
    rw [List.length_map, List.length_map]
    exact c.le⟩
theorem moved_ok {n : Nat} {s h : List (List Int)} (c : Pc n s h) {g : List Int → Option (List Int)} {f : List Int → List Int} (hg : ∀ p, p.length = n → g p = some (f p)) (fi : ∀ p q, p.length = n → q.length = n → f p = f q → p = q) (fl : ∀ p, p.length = n → (f p).length = n) :
    ((o1 (oLc yes g) (some (srtT s))).bind fun seen => (o3 (fun a0 a1 a2 => (m_Picture___init__ (none, none, none, none) a0 a1 a2).bind fun r => finO4 r.2) (some (n : Int)) (some seen) (o1 (oLc yes g) (some (srtT h)))).bind fun rv => some rv) = some (pic n ((srtT s).map f) ((srtT h).map f)) ∧ Pc n ((srtT s).map f) ((srtT h).map f) := by
  have c2 := c.srt.map fi fl
  refine ⟨?_, c2⟩
  have hl := c.srt.le
  rw [o1_s, lc_map (h := f) (by omega) fun p hp => hg p (c.srt.s p hp), bind_s, o1_s, lc_map (h := f) (by omega) fun p hp => hg p (c.srt.h p hp), o3_s, pic_ok c2]
  rfl
theorem pl_len {p s : List Int} (h : p.length = s.length) : (pl p s).length = p.length := by
  rw [List.length_zipWith, h, Nat.min_self]
theorem pl_inj : ∀ {p q s : List Int}, p.length = s.length → q.length = s.length → pl p s = pl q s → p = q
  | [], [], _, _, _, _ => rfl
  | [], _ :: _, [], _, h, _ => by simp at h
  | [], _ :: _, _ :: _, h, _, _ => by simp at h
  | _ :: _, [], [], h, _, _ => by simp at h
  | _ :: _, [], _ :: _, _, h, _ => by simp at h
  | _ :: _, _ :: _, [], h, _, _ => by simp at h
  | a :: p, b :: q, c :: s, h1, h2, e => by
    have e : (a + c) :: pl p s = (b + c) :: pl q s := e
    injection e with e1 e2
    rw [pl_inj (by simpa using h1) (by simpa using h2) e2, show a = b by omega]
theorem shifted_ok {n : Nat} {s h : List (List Int)} (c : Pc n s h) {v : List Int} (hv : v.length = n) : m_Picture_shifted (pic n s h) v = some (pic n ((srtT s).map fun p => pl p v) ((srtT h).map fun p => pl p v)) ∧ Pc n ((srtT s).map fun p => pl p v) ((srtT h).map fun p => pl p v) := by
  have n3 : n ≤ 3 := by have := c.two; omega
  have q := moved_ok c (g := fun p => m_plus p v) (f := fun p => pl p v) (fun p hp => plus_ok (by rw [hp, hv]) (by omega)) (fun p q hp hq => pl_inj (by rw [hp, hv]) (by rw [hq, hv])) (fun p hp => by rw [pl_len (by rw [hp, hv]), hp])
  refine ⟨?_, q.2⟩
  rw [← q.1]
  unfold m_Picture_shifted pic
  rw [bind_s, if_neg (by simp [hv])]
/-! matrices -/
def dot (r p : List Int) : Int := (List.zipWith (fun a b => a * b) r p).sum
def ap (R : List (List Int)) (p : List Int) : List Int := R.map fun r => dot r p
theorem dot_sub : ∀ {r p s : List Int}, p.length = s.length → dot r (List.zipWith (fun a b => a - b) p s) = dot r p - dot r s
  | [], _, _, _ => rfl
  | a :: r, [], [], _ => rfl
  | a :: r, [], _ :: _, h => by simp at h
  | a :: r, _ :: _, [], h => by simp at h
  | a :: r, x :: p, y :: s, h => by
    have ih := dot_sub (r := r) (p := p) (s := s) (by simpa using h)
    have e : dot (a :: r) (List.zipWith (fun a b => a - b) (x :: p) (y :: s)) = a * (x - y) + dot r (List.zipWith (fun a b => a - b) p s) := by simp [dot]
    have e1 : dot (a :: r) (x :: p) = a * x + dot r p := by simp [dot]
    have e2 : dot (a :: r) (y :: s) = a * y + dot r s := by simp [dot]
    rw [e, e1, e2, ih, Int.mul_sub]
    omega
theorem ap_len (R : List (List Int)) (p : List Int) : (ap R p).length = R.length := List.length_map _
structure Kp (n : Nat) (R : List (List Int)) : Prop where
  len : R.length = n
  row : ∀ r ∈ R, r.length = n
  bd : ∀ r ∈ R, ∀ v ∈ r, v.natAbs < 2 ^ 30
  det : m_determinant R = some 1 ∨ m_determinant R = some (-1)
  gcd : ∀ v : List Int, v.length = n → gcdL (ap R v) = gcdL v
theorem Kp.inj {n : Nat} {R : List (List Int)} (k : Kp n R) {p q : List Int} (hp : p.length = n) (hq : q.length = n) (e : ap R p = ap R q) : p = q := by
  have h1 := k.gcd (List.zipWith (fun a b => a - b) p q) (by simp [hp, hq])
  have h2 : gcdL (ap R (List.zipWith (fun a b => a - b) p q)) = 0 := by
    refine gcdL_zeros fun v hv => ?_
    obtain ⟨r, hr, rfl⟩ := List.mem_map.mp hv
    rw [dot_sub (by rw [hp, hq])]
    have : dot r p = dot r q := List.map_inj_left.mp e r hr
    omega
  rw [h2] at h1
  have z := gcdL_zero h1.symm
  refine List.ext_getElem (by rw [hp, hq]) fun i h1 h2 => ?_
  have := z (p[i] - q[i]) (by
    have hl : i < (List.zipWith (fun a b => a - b) p q).length := by simp; omega
    have e : (List.zipWith (fun a b => a - b) p q)[i] = p[i] - q[i] := List.getElem_zipWith
    rw [← e]
    exact List.getElem_mem _)
  omega
theorem dot_ok {r p : List Int} (h : r.length = p.length) (hb : ∀ v ∈ r, v.natAbs < 2 ^ 30) (hl : p.length ≤ 1000) : Option.map List.sum (o1 (oLc yes (fun (k_ : Int) => (o2 mulG (o2 ixG (some r) (some k_)) (o2 ixG (some p) (some k_))))) (o1 rngG (some (p.length : Int)))) = some (dot r p) := by
  rw [o1_s, rngG_s (by omega) (by omega), o1_s, lc_rng (h := fun i => r.getD i 0 * p.getD i 0) (by omega) fun i hi => by
    have hi' : i < r.length := by omega
    simp only [o2_s, ixG_i (l := r) hi', ixG_i (l := p) hi]
    rw [mulG_l (by have := hb _ (List.getElem_mem hi'); omega)]
    simp [hi, hi'], map_s]
  refine congrArg some (congrArg List.sum ?_)
  rw [← h]
  exact range_zip (g := fun a b => a * b) h fun i h1 h2 => by simp [h1, h2]
theorem image_ok {n : Nat} {R : List (List Int)} (k : Kp n R) {p : List Int} (hp : p.length = n) (hn : n ≤ 3) : m_image R p = some (ap R p) := by
  unfold m_image
  rw [bind_s, bind_s]
  have q : ∀ (l : List (List Int)) (f : List Int), (∀ r ∈ l, r ∈ R) → f.length + l.length ≤ 1000 → oFold (fun (row : List Int) (found : List Int) => (Option.map List.sum (o1 (oLc yes (fun (k_ : Int) => (o2 mulG (o2 ixG (some row) (some k_)) (o2 ixG (some p) (some k_))))) (o1 rngG (some (p.length : Int))))).bind fun val => (appG found val).bind fun found => some found) l f = some (f ++ l.map fun r => dot r p) := by
    intro l
    induction l with
    | nil => intro f _ _; rw [fold_nil]; simp
    | cons r l ih =>
      intro f hm hl
      rw [List.length_cons] at hl
      have hr := hm r List.mem_cons_self
      rw [fold_cons, dot_ok (by rw [k.row r hr, hp]) (k.bd r hr) (by omega), bind_s, appG_s (by omega), bind_s, bind_s, ih _ (fun r hr => hm r (List.mem_cons_of_mem _ hr)) (by simp; omega)]
      simp
  have := q R [] (fun _ h => h) (by rw [k.len]; simp; omega)
  refine Eq.trans (congrArg (fun m => Option.bind m _) this) rfl
theorem keeps_ok {n : Nat} {R : List (List Int)} (k : Kp n R) : m_keeps_posts R (n : Int) = some true := by
  unfold m_keeps_posts
  refine W_is ?_
  rw [bind_s, if_neg (by simp [k.len]), bind_s]
  refine W_bind (W_all (fun r hr => ?_) ?_)
  · rw [bind_s, if_neg (by simp [k.row r hr])]
    exact ⟨_, rfl, rfl⟩
  · rcases k.det with e | e
    all_goals
      rw [e]
      exact ⟨_, rfl, rfl⟩
theorem mapped_ok {n : Nat} {s h : List (List Int)} (c : Pc n s h) {R : List (List Int)} (k : Kp n R) : m_Picture_mapped (pic n s h) R = some (pic n ((srtT s).map (ap R)) ((srtT h).map (ap R))) ∧ Pc n ((srtT s).map (ap R)) ((srtT h).map (ap R)) := by
  have n3 : n ≤ 3 := by have := c.two; omega
  have q := moved_ok c (g := fun p => m_image R p) (f := ap R) (fun p hp => image_ok k hp n3) (fun p q hp hq => k.inj hp hq) (fun p hp => by rw [ap_len, k.len])
  refine ⟨?_, q.2⟩
  rw [← q.1]
  unfold m_Picture_mapped pic
  rw [keeps_ok k, oNot_s, bind_s, if_neg (by decide)]
def D3 (a b c d e f g h i : Int) : Int := a * (e * i - f * h) + b * (f * g - d * i) + c * (d * h - e * g)
theorem d3_1 (a b c d e f g h k t : Int) : D3 (a + t * d) (b + t * e) (c + t * f) d e f g h k = D3 a b c d e f g h k := by unfold D3; grind
theorem d3_2 (a b c d e f g h k t : Int) : D3 (a + t * g) (b + t * h) (c + t * k) d e f g h k = D3 a b c d e f g h k := by unfold D3; grind
theorem d3_3 (a b c d e f g h k t : Int) : D3 a b c (d + t * a) (e + t * b) (f + t * c) g h k = D3 a b c d e f g h k := by unfold D3; grind
theorem d3_4 (a b c d e f g h k t : Int) : D3 a b c (d + t * g) (e + t * h) (f + t * k) g h k = D3 a b c d e f g h k := by unfold D3; grind
theorem d3_5 (a b c d e f g h k t : Int) : D3 a b c d e f (g + t * a) (h + t * b) (k + t * c) = D3 a b c d e f g h k := by unfold D3; grind
theorem d3_6 (a b c d e f g h k t : Int) : D3 a b c d e f (g + t * d) (h + t * e) (k + t * f) = D3 a b c d e f g h k := by unfold D3; grind
theorem d3neg0 (a b c d e f g h k : Int) : D3 (0 - a) (0 - b) (0 - c) d e f g h k = -D3 a b c d e f g h k := by unfold D3; grind
theorem d3neg1 (a b c d e f g h k : Int) : D3 a b c (0 - d) (0 - e) (0 - f) g h k = -D3 a b c d e f g h k := by unfold D3; grind
theorem d3neg2 (a b c d e f g h k : Int) : D3 a b c d e f (0 - g) (0 - h) (0 - k) = -D3 a b c d e f g h k := by unfold D3; grind
theorem d2n0 (a b c d : Int) : (0 - a) * d - (0 - b) * c = -(a * d - b * c) := by grind
theorem d2n1 (a b c d : Int) : a * (0 - d) - b * (0 - c) = -(a * d - b * c) := by grind
theorem d3swap0 (a b c d e f g h k : Int) : D3 d e f a b c g h k = -D3 a b c d e f g h k := by unfold D3; grind
theorem d3swap1 (a b c d e f g h k : Int) : D3 d e f a b c g h k = -D3 a b c d e f g h k := by unfold D3; grind
theorem d3swap2 (a b c d e f g h k : Int) : D3 g h k d e f a b c = -D3 a b c d e f g h k := by unfold D3; grind
theorem d3swap3 (a b c d e f g h k : Int) : D3 g h k d e f a b c = -D3 a b c d e f g h k := by unfold D3; grind
theorem d3swap4 (a b c d e f g h k : Int) : D3 a b c g h k d e f = -D3 a b c d e f g h k := by unfold D3; grind
theorem d3swap5 (a b c d e f g h k : Int) : D3 a b c g h k d e f = -D3 a b c d e f g h k := by unfold D3; grind
theorem d2s (a b c d : Int) : c * b - d * a = -(a * d - b * c) := by grind
theorem d2a (a b c d t : Int) : (a + t * c) * d - (b + t * d) * c = a * d - b * c := by grind
theorem d2b (a b c d t : Int) : a * (d + t * b) - b * (c + t * a) = a * d - b * c := by grind
def G2 (B : Nat) (R : List (List Int)) : Prop := ∃ a b c d : Int, R = [[a, b], [c, d]] ∧ (a * d - b * c = 1 ∨ a * d - b * c = -1) ∧ a.natAbs ≤ B ∧ b.natAbs ≤ B ∧ c.natAbs ≤ B ∧ d.natAbs ≤ B
def G3 (B : Nat) (R : List (List Int)) : Prop := ∃ a b c d e f g h i : Int, R = [[a, b, c], [d, e, f], [g, h, i]] ∧ (D3 a b c d e f g h i = 1 ∨ D3 a b c d e f g h i = -1) ∧ (a.natAbs ≤ B ∧ b.natAbs ≤ B ∧ c.natAbs ≤ B) ∧ (d.natAbs ≤ B ∧ e.natAbs ≤ B ∧ f.natAbs ≤ B) ∧ g.natAbs ≤ B ∧ h.natAbs ≤ B ∧ i.natAbs ≤ B
def G (n B : Nat) (R : List (List Int)) : Prop := (n = 2 ∧ G2 B R) ∨ (n = 3 ∧ G3 B R)
theorem bd_add {x y t : Int} {B : Nat} (hx : x.natAbs ≤ B) (hy : y.natAbs ≤ B) (ht : t.natAbs ≤ 49) : (x + t * y).natAbs ≤ 50 * B := by
  have h1 := Int.natAbs_add_le x (t * y)
  rw [Int.natAbs_mul] at h1
  have h2 := Nat.mul_le_mul ht hy
  omega
theorem bd_neg {x : Int} {B : Nat} (hx : x.natAbs ≤ B) : (0 - x).natAbs ≤ 50 * B := by omega
theorem bd_up {x : Int} {B : Nat} (hx : x.natAbs ≤ B) : x.natAbs ≤ 50 * B := by omega
theorem G.len {n B : Nat} {R : List (List Int)} (h : G n B R) : R.length = n := by
  rcases h with ⟨rfl, a, b, c, d, rfl, _⟩ | ⟨rfl, a, b, c, d, e, f, g, h, i, rfl, _⟩
  all_goals rfl
theorem G.row {n B : Nat} {R : List (List Int)} (h : G n B R) : ∀ r ∈ R, r.length = n := by
  rcases h with ⟨rfl, a, b, c, d, rfl, _⟩ | ⟨rfl, a, b, c, d, e, f, g, h, i, rfl, _⟩
  all_goals
    intro r hr
    simp only [List.mem_cons, List.not_mem_nil, or_false] at hr
    rcases hr with rfl | rfl | rfl
    all_goals rfl
theorem ij2 {i j : Nat} (hi : i < 2) (hj : j < 2) (ij : i ≠ j) : (i = 0 ∧ j = 1) ∨ (i = 1 ∧ j = 0) := by omega
theorem ij3 {i j : Nat} (hi : i < 3) (hj : j < 3) (ij : i ≠ j) : (i = 0 ∧ j = 1) ∨ (i = 0 ∧ j = 2) ∨ (i = 1 ∧ j = 0) ∨ (i = 1 ∧ j = 2) ∨ (i = 2 ∧ j = 0) ∨ (i = 2 ∧ j = 1) := by omega
theorem ij3' {i j : Nat} (hi : i < 3) (hj : j < 3) (ij : i ≠ j) : (i = 0 ∧ j = 1) ∨ (i = 1 ∧ j = 0) ∨ (i = 0 ∧ j = 2) ∨ (i = 2 ∧ j = 0) ∨ (i = 1 ∧ j = 2) ∨ (i = 2 ∧ j = 1) := by omega
theorem i2 {i : Nat} (hi : i < 2) : i = 0 ∨ i = 1 := by omega
theorem i3 {i : Nat} (hi : i < 3) : i = 0 ∨ i = 1 ∨ i = 2 := by omega
theorem G.add {n B : Nat} {R : List (List Int)} (h : G n B R) {i j : Nat} (hi : i < n) (hj : j < n) (ij : i ≠ j) {t : Int} (ht : t.natAbs ≤ 49) : G n (50 * B) (R.set i (List.zipWith (fun x y => x + t * y) (R.getD i []) (R.getD j []))) := by
  rcases h with ⟨rfl, a, b, c, d, rfl, hD, h1, h2, h3, h4⟩ | ⟨rfl, a, b, c, d, e, f, g, h, k, rfl, hD, ⟨h1, h2, h3⟩, ⟨h4, h5, h6⟩, h7, h8, h9⟩
  · left
    refine ⟨rfl, ?_⟩
    obtain ⟨rfl, rfl⟩ | ⟨rfl, rfl⟩ := ij2 hi hj ij
    · refine ⟨a + t * c, b + t * d, c, d, rfl, ?_, bd_add h1 h3 ht, bd_add h2 h4 ht, bd_up h3, bd_up h4⟩
      rw [d2a]; exact hD
    · refine ⟨a, b, c + t * a, d + t * b, rfl, ?_, bd_up h1, bd_up h2, bd_add h3 h1 ht, bd_add h4 h2 ht⟩
      rw [d2b]; exact hD
  · right
    refine ⟨rfl, ?_⟩
    obtain ⟨rfl, rfl⟩ | ⟨rfl, rfl⟩ | ⟨rfl, rfl⟩ | ⟨rfl, rfl⟩ | ⟨rfl, rfl⟩ | ⟨rfl, rfl⟩ := ij3 hi hj ij
    · refine ⟨a + t * d, b + t * e, c + t * f, d, e, f, g, h, k, rfl, ?_, ⟨bd_add h1 h4 ht, bd_add h2 h5 ht, bd_add h3 h6 ht⟩, ⟨bd_up h4, bd_up h5, bd_up h6⟩, bd_up h7, bd_up h8, bd_up h9⟩
      rw [d3_1]; exact hD
    · refine ⟨a + t * g, b + t * h, c + t * k, d, e, f, g, h, k, rfl, ?_, ⟨bd_add h1 h7 ht, bd_add h2 h8 ht, bd_add h3 h9 ht⟩, ⟨bd_up h4, bd_up h5, bd_up h6⟩, bd_up h7, bd_up h8, bd_up h9⟩
      rw [d3_2]; exact hD
    · refine ⟨a, b, c, d + t * a, e + t * b, f + t * c, g, h, k, rfl, ?_, ⟨bd_up h1, bd_up h2, bd_up h3⟩, ⟨bd_add h4 h1 ht, bd_add h5 h2 ht, bd_add h6 h3 ht⟩, bd_up h7, bd_up h8, bd_up h9⟩
      rw [d3_3]; exact hD
    · refine ⟨a, b, c, d + t * g, e + t * h, f + t * k, g, h, k, rfl, ?_, ⟨bd_up h1, bd_up h2, bd_up h3⟩, ⟨bd_add h4 h7 ht, bd_add h5 h8 ht, bd_add h6 h9 ht⟩, bd_up h7, bd_up h8, bd_up h9⟩
      rw [d3_4]; exact hD
    · refine ⟨a, b, c, d, e, f, g + t * a, h + t * b, k + t * c, rfl, ?_, ⟨bd_up h1, bd_up h2, bd_up h3⟩, ⟨bd_up h4, bd_up h5, bd_up h6⟩, bd_add h7 h1 ht, bd_add h8 h2 ht, bd_add h9 h3 ht⟩
      rw [d3_5]; exact hD
    · refine ⟨a, b, c, d, e, f, g + t * d, h + t * e, k + t * f, rfl, ?_, ⟨bd_up h1, bd_up h2, bd_up h3⟩, ⟨bd_up h4, bd_up h5, bd_up h6⟩, bd_add h7 h4 ht, bd_add h8 h5 ht, bd_add h9 h6 ht⟩
      rw [d3_6]; exact hD
theorem turn {x y : Int} (e : y = -x) (h : x = 1 ∨ x = -1) : y = 1 ∨ y = -1 := by omega
theorem G.neg {n B : Nat} {R : List (List Int)} (h : G n B R) {i : Nat} (hi : i < n) : G n (50 * B) (R.set i ((R.getD i []).map fun x => 0 - x)) := by
  rcases h with ⟨rfl, a, b, c, d, rfl, hD, h1, h2, h3, h4⟩ | ⟨rfl, a, b, c, d, e, f, g, h, k, rfl, hD, ⟨h1, h2, h3⟩, ⟨h4, h5, h6⟩, h7, h8, h9⟩
  · left
    refine ⟨rfl, ?_⟩
    obtain rfl | rfl := i2 hi
    · exact ⟨_, _, _, _, rfl, turn (d2n0 a b c d) hD, bd_neg h1, bd_neg h2, bd_up h3, bd_up h4⟩
    · exact ⟨_, _, _, _, rfl, turn (d2n1 a b c d) hD, bd_up h1, bd_up h2, bd_neg h3, bd_neg h4⟩
  · right
    refine ⟨rfl, ?_⟩
    obtain rfl | rfl | rfl := i3 hi
    · exact ⟨_, _, _, _, _, _, _, _, _, rfl, turn (d3neg0 a b c d e f g h k) hD, ⟨bd_neg h1, bd_neg h2, bd_neg h3⟩, ⟨bd_up h4, bd_up h5, bd_up h6⟩, bd_up h7, bd_up h8, bd_up h9⟩
    · exact ⟨_, _, _, _, _, _, _, _, _, rfl, turn (d3neg1 a b c d e f g h k) hD, ⟨bd_up h1, bd_up h2, bd_up h3⟩, ⟨bd_neg h4, bd_neg h5, bd_neg h6⟩, bd_up h7, bd_up h8, bd_up h9⟩
    · exact ⟨_, _, _, _, _, _, _, _, _, rfl, turn (d3neg2 a b c d e f g h k) hD, ⟨bd_up h1, bd_up h2, bd_up h3⟩, ⟨bd_up h4, bd_up h5, bd_up h6⟩, bd_neg h7, bd_neg h8, bd_neg h9⟩
theorem G.swap {n B : Nat} {R : List (List Int)} (h : G n B R) {i j : Nat} (hi : i < n) (hj : j < n) (ij : i ≠ j) : G n (50 * B) ((R.set i (R.getD j [])).set j (R.getD i [])) := by
  rcases h with ⟨rfl, a, b, c, d, rfl, hD, h1, h2, h3, h4⟩ | ⟨rfl, a, b, c, d, e, f, g, h, k, rfl, hD, ⟨h1, h2, h3⟩, ⟨h4, h5, h6⟩, h7, h8, h9⟩
  · left
    refine ⟨rfl, ?_⟩
    obtain ⟨rfl, rfl⟩ | ⟨rfl, rfl⟩ := ij2 hi hj ij
    all_goals exact ⟨_, _, _, _, rfl, turn (d2s a b c d) hD, bd_up h3, bd_up h4, bd_up h1, bd_up h2⟩
  · right
    refine ⟨rfl, ?_⟩
    obtain ⟨rfl, rfl⟩ | ⟨rfl, rfl⟩ | ⟨rfl, rfl⟩ | ⟨rfl, rfl⟩ | ⟨rfl, rfl⟩ | ⟨rfl, rfl⟩ := ij3' hi hj ij
    · exact ⟨_, _, _, _, _, _, _, _, _, rfl, turn (d3swap0 a b c d e f g h k) hD, ⟨bd_up h4, bd_up h5, bd_up h6⟩, ⟨bd_up h1, bd_up h2, bd_up h3⟩, bd_up h7, bd_up h8, bd_up h9⟩
    · exact ⟨_, _, _, _, _, _, _, _, _, rfl, turn (d3swap1 a b c d e f g h k) hD, ⟨bd_up h4, bd_up h5, bd_up h6⟩, ⟨bd_up h1, bd_up h2, bd_up h3⟩, bd_up h7, bd_up h8, bd_up h9⟩
    · exact ⟨_, _, _, _, _, _, _, _, _, rfl, turn (d3swap2 a b c d e f g h k) hD, ⟨bd_up h7, bd_up h8, bd_up h9⟩, ⟨bd_up h4, bd_up h5, bd_up h6⟩, bd_up h1, bd_up h2, bd_up h3⟩
    · exact ⟨_, _, _, _, _, _, _, _, _, rfl, turn (d3swap3 a b c d e f g h k) hD, ⟨bd_up h7, bd_up h8, bd_up h9⟩, ⟨bd_up h4, bd_up h5, bd_up h6⟩, bd_up h1, bd_up h2, bd_up h3⟩
    · exact ⟨_, _, _, _, _, _, _, _, _, rfl, turn (d3swap4 a b c d e f g h k) hD, ⟨bd_up h1, bd_up h2, bd_up h3⟩, ⟨bd_up h7, bd_up h8, bd_up h9⟩, bd_up h4, bd_up h5, bd_up h6⟩
    · exact ⟨_, _, _, _, _, _, _, _, _, rfl, turn (d3swap5 a b c d e f g h k) hD, ⟨bd_up h1, bd_up h2, bd_up h3⟩, ⟨bd_up h7, bd_up h8, bd_up h9⟩, bd_up h4, bd_up h5, bd_up h6⟩
theorem dv2 {d a b c e x y : Int} (hD : a * e - b * c = 1 ∨ a * e - b * c = -1) (h1 : d ∣ a * x + b * y) (h2 : d ∣ c * x + e * y) : d ∣ x ∧ d ∣ y := by
  obtain ⟨p, h1⟩ := h1
  obtain ⟨q, h2⟩ := h2
  have ex : (a * e - b * c) * x = d * (e * p - b * q) := by grind
  have ey : (a * e - b * c) * y = d * (a * q - c * p) := by grind
  rcases hD with h | h
  · rw [h, Int.one_mul] at ex ey
    exact ⟨⟨_, ex⟩, ⟨_, ey⟩⟩
  · rw [h] at ex ey
    exact ⟨⟨-(e * p - b * q), by rw [Int.mul_neg]; omega⟩, ⟨-(a * q - c * p), by rw [Int.mul_neg]; omega⟩⟩
theorem dv3 {u a b c d e f g h i x y z : Int} (hD : D3 a b c d e f g h i = 1 ∨ D3 a b c d e f g h i = -1) (h1 : u ∣ a * x + b * y + c * z) (h2 : u ∣ d * x + e * y + f * z) (h3 : u ∣ g * x + h * y + i * z) : u ∣ x ∧ u ∣ y ∧ u ∣ z := by
  obtain ⟨p, h1⟩ := h1
  obtain ⟨q, h2⟩ := h2
  obtain ⟨r, h3⟩ := h3
  have ex : D3 a b c d e f g h i * x = u * ((e * i - f * h) * p + (c * h - b * i) * q + (b * f - c * e) * r) := by
    have : u * ((e * i - f * h) * p + (c * h - b * i) * q + (b * f - c * e) * r) = (e * i - f * h) * (u * p) + (c * h - b * i) * (u * q) + (b * f - c * e) * (u * r) := by grind
    rw [this, ← h1, ← h2, ← h3]; unfold D3; grind
  have ey : D3 a b c d e f g h i * y = u * ((f * g - d * i) * p + (a * i - c * g) * q + (c * d - a * f) * r) := by
    have : u * ((f * g - d * i) * p + (a * i - c * g) * q + (c * d - a * f) * r) = (f * g - d * i) * (u * p) + (a * i - c * g) * (u * q) + (c * d - a * f) * (u * r) := by grind
    rw [this, ← h1, ← h2, ← h3]; unfold D3; grind
  have ez : D3 a b c d e f g h i * z = u * ((d * h - e * g) * p + (b * g - a * h) * q + (a * e - b * d) * r) := by
    have : u * ((d * h - e * g) * p + (b * g - a * h) * q + (a * e - b * d) * r) = (d * h - e * g) * (u * p) + (b * g - a * h) * (u * q) + (a * e - b * d) * (u * r) := by grind
    rw [this, ← h1, ← h2, ← h3]; unfold D3; grind
  have fin : ∀ {v w : Int}, D3 a b c d e f g h i * v = u * w → u ∣ v := by
    intro v w e
    rcases hD with h | h
    · rw [h, Int.one_mul] at e
      exact ⟨_, e⟩
    · rw [h] at e
      exact ⟨-w, by rw [Int.mul_neg]; omega⟩
  exact ⟨fin ex, fin ey, fin ez⟩
theorem kp2 {B : Nat} {R : List (List Int)} (hB : B < 2 ^ 30) (h : G2 B R) : Kp 2 R := by
  have hg : G 2 B R := .inl ⟨rfl, h⟩
  obtain ⟨a, b, c, d, rfl, hD, h1, h2, h3, h4⟩ := h
  have q : ∀ v : Int, v.natAbs ≤ B → v.natAbs < 2 ^ 64 := fun v hv => by omega
  refine ⟨rfl, hg.row, fun r hr v hv => ?_, ?_, fun v hv => ?_⟩
  · have : v.natAbs ≤ B := by
      simp only [List.mem_cons, List.not_mem_nil, or_false] at hr
      rcases hr with rfl | rfl
      all_goals
        simp only [List.mem_cons, List.not_mem_nil, or_false] at hv
        rcases hv with rfl | rfl
        all_goals assumption
    clear h1 h2 h3 h4
    omega
  · have e : m_determinant [[a, b], [c, d]] = some (a * d - b * c) := by
      unfold m_determinant
      rw [bind_s, if_pos (by simp)]
      simp only [o2_s, ix0, ix1, mulG_l (q a h1), mulG_l (q b h2), subG_s, bind_s]
    rw [e]
    rcases hD with h | h
    all_goals rw [h]
    · exact .inl rfl
    · exact .inr rfl
  · match v, hv with
    | [x, y], _ =>
      refine gcdL_eq fun u => ?_
      have e : ap [[a, b], [c, d]] [x, y] = [a * x + (b * y + 0), c * x + (d * y + 0)] := rfl
      rw [e, Int.add_zero, Int.add_zero]
      constructor
      · intro hu
        have := dv2 (d := u) hD (hu _ List.mem_cons_self) (hu _ (List.mem_cons_of_mem _ List.mem_cons_self))
        intro v hv
        simp only [List.mem_cons, List.not_mem_nil, or_false] at hv
        rcases hv with rfl | rfl
        · exact this.1
        · exact this.2
      · intro hu v hv
        have hx := hu x List.mem_cons_self
        have hy := hu y (List.mem_cons_of_mem _ List.mem_cons_self)
        simp only [List.mem_cons, List.not_mem_nil, or_false] at hv
        rcases hv with rfl | rfl
        all_goals exact Int.dvd_add (Int.dvd_trans hx (Int.dvd_mul_left _ _)) (Int.dvd_trans hy (Int.dvd_mul_left _ _))
theorem kp3 {B : Nat} {R : List (List Int)} (hB : B < 2 ^ 30) (h : G3 B R) : Kp 3 R := by
  have hg : G 3 B R := .inr ⟨rfl, h⟩
  obtain ⟨a, b, c, d, e, f, g, h, k, rfl, hD, ⟨h1, h2, h3⟩, ⟨h4, h5, h6⟩, h7, h8, h9⟩ := h
  have q : ∀ v : Int, v.natAbs ≤ B → v.natAbs < 2 ^ 64 := fun v hv => by omega
  have q1 := q a h1
  have q2 := q b h2
  have q3 := q c h3
  have q4 := q d h4
  have q5 := q e h5
  have q6 := q f h6
  refine ⟨rfl, hg.row, fun r hr v hv => ?_, ?_, fun v hv => ?_⟩
  · have : v.natAbs ≤ B := by
      simp only [List.mem_cons, List.not_mem_nil, or_false] at hr
      rcases hr with rfl | rfl | rfl
      all_goals
        simp only [List.mem_cons, List.not_mem_nil, or_false] at hv
        rcases hv with rfl | rfl | rfl
        all_goals assumption
    clear h1 h2 h3 h4 h5 h6 h7 h8 h9 q1 q2 q3 q4 q5 q6
    omega
  · have ed : m_determinant [[a, b, c], [d, e, f], [g, h, k]] = some (D3 a b c d e f g h k) := by
      unfold m_determinant
      rw [bind_s, if_neg (by simp)]
      have er : rngG 3 = some [0, 1, 2] := rfl
      have m0 : modG (0 + 1) 3 = some 1 := rfl
      have m1 : modG (0 + 2) 3 = some 2 := rfl
      have m2 : modG (1 + 1) 3 = some 2 := rfl
      have m3 : modG (1 + 2) 3 = some 0 := rfl
      have m4 : modG (2 + 1) 3 = some 0 := rfl
      have m5 : modG (2 + 2) 3 = some 1 := rfl
      simp only [bind_s, o1_s, er, fold_cons, fold_nil, o2_s, m0, m1, m2, m3, m4, m5, oP2_s, ix0, ix1, ix2, mulG_l q4, mulG_l q5, mulG_l q6, subG_s, mulG_l q1, mulG_l q2, mulG_l q3]
      unfold D3
      rw [Int.zero_add]
    rw [ed]
    rcases hD with h | h
    all_goals rw [h]
    · exact .inl rfl
    · exact .inr rfl
  · match v, hv with
    | [x, y, z], _ =>
      refine gcdL_eq fun u => ?_
      have ee : ap [[a, b, c], [d, e, f], [g, h, k]] [x, y, z] = [a * x + (b * y + (c * z + 0)), d * x + (e * y + (f * z + 0)), g * x + (h * y + (k * z + 0))] := rfl
      rw [ee, Int.add_zero, Int.add_zero, Int.add_zero, ← Int.add_assoc, ← Int.add_assoc, ← Int.add_assoc]
      constructor
      · intro hu
        have := dv3 (u := u) hD (hu _ List.mem_cons_self) (hu _ (List.mem_cons_of_mem _ List.mem_cons_self)) (hu _ (List.mem_cons_of_mem _ (List.mem_cons_of_mem _ List.mem_cons_self)))
        intro v hv
        simp only [List.mem_cons, List.not_mem_nil, or_false] at hv
        rcases hv with rfl | rfl | rfl
        · exact this.1
        · exact this.2.1
        · exact this.2.2
      · intro hu v hv
        have hx := hu x List.mem_cons_self
        have hy := hu y (List.mem_cons_of_mem _ List.mem_cons_self)
        have hz := hu z (List.mem_cons_of_mem _ (List.mem_cons_of_mem _ List.mem_cons_self))
        simp only [List.mem_cons, List.not_mem_nil, or_false] at hv
        rcases hv with rfl | rfl | rfl
        all_goals exact Int.dvd_add (Int.dvd_add (Int.dvd_trans hx (Int.dvd_mul_left _ _)) (Int.dvd_trans hy (Int.dvd_mul_left _ _))) (Int.dvd_trans hz (Int.dvd_mul_left _ _))
theorem G.kp {n B : Nat} {R : List (List Int)} (h : G n B R) (hB : B < 2 ^ 30) : Kp n R := by
  rcases h with ⟨rfl, h⟩ | ⟨rfl, h⟩
  · exact kp2 hB h
  · exact kp3 hB h
/-! the draws -/
def Ok (s : List Int) : Prop := ∃ a b c, s = [a, b, c] ∧ 0 ≤ b ∧ b < 618970019642690137449562111
theorem spring_ok (x k : Int) : ∃ s, m_spring x k = some s ∧ Ok s := by
  refine ⟨[max 0 (x - 10 ^ 18), (x * 2654435761 + 40503 * k + 977) % 618970019642690137449562111, k], ?_, _, _, _, rfl, Int.emod_nonneg _ (by decide), Int.emod_lt_of_pos _ (by decide)⟩
  unfold m_spring
  simp only [o2_s, o1_s, mulG_r (a := x) (b := 2654435761) (by decide), mulG_l (a := 40503) (b := k) (by decide), addG_s, maxG_s, oCons_s]
  rw [modG_s (by decide)] <;> rfl
theorem sip_ok {s : List Int} (h : Ok s) {m : Int} (h0 : 0 < m) (h1 : m < 2 ^ 256) : ∃ x s', m_sip s m = some (x, s') ∧ Ok s' ∧ 0 ≤ x ∧ x < m := by
  obtain ⟨a, b, c, rfl, hb0, hb1⟩ := h
  unfold m_sip
  simp only [o2_s, o1_s, ix0, ix1, ix2, gtG_s, bind_s, addG_s]
  by_cases ha : 1 < a
  · simp only [decide_eq_true ha, if_true, modG_s h0, divG_s h0 h1 (by decide), bind_s, set0]
    exact ⟨_, _, rfl, ⟨_, _, _, rfl, hb0, hb1⟩, Int.emod_nonneg _ (by omega), Int.emod_lt_of_pos _ h0⟩
  · have q : mulG b (b + 48271) = some (b * (b + 48271)) := mulG_b (m := 90) (n := 91) (by omega) (by omega)
    simp only [decide_eq_false ha, Bool.false_eq_true, if_false, set2, bind_s, ix0, ix1, ix2, o2_s, addG_s, q, mulG_l (a := 69621) (b := c + 1) (by decide), modG_s (b := 618970019642690137449562111) (by decide), set1, divG_s (b := 1009) (n := 10) (by decide) (by decide) (by decide), o1_s, modG_s h0]
    exact ⟨_, _, rfl, ⟨_, _, _, rfl, Int.emod_nonneg _ (by decide), Int.emod_lt_of_pos _ (by decide)⟩, Int.emod_nonneg _ (by omega), Int.emod_lt_of_pos _ h0⟩
theorem far_ok {s : List Int} (h : Ok s) {w : Int} (h0 : 0 < w) : ∃ x s', m_far s w = some (x, s') ∧ Ok s' ∧ x.natAbs ≤ w.natAbs := by
  obtain ⟨x1, s1, e1, k1, a1, b1⟩ := sip_ok h (m := 10 ^ 20) (by decide) (by decide)
  obtain ⟨x2, s2, e2, k2, a2, b2⟩ := sip_ok k1 (m := 10 ^ 20) (by decide) (by decide)
  obtain ⟨x3, s3, e3, k3, a3, b3⟩ := sip_ok k2 (m := 10 ^ 20) (by decide) (by decide)
  have l : rngL 0 3 = [0, 1, 2] := rfl
  have m1 : mulG 0 (10 ^ 20) = some 0 := by decide
  have m2 : mulG x1 (10 ^ 20) = some (x1 * 10 ^ 20) := mulG_b (m := 70) (n := 70) (by omega) (by decide)
  have m3 : mulG (x1 * 10 ^ 20 + x2) (10 ^ 20) = some ((x1 * 10 ^ 20 + x2) * 10 ^ 20) := mulG_b (m := 200) (n := 70) (by omega) (by decide)
  have m4 : mulG 2 w = some (2 * w) := mulG_l (by decide)
  unfold m_far
  simp only [bind_s, o1_s, o2_s, rngG_s (n := 3) (by decide) (by decide), l, fold_cons, fold_nil, s2_s, sP_s, sC_s, sK_s, s1_s, m1, m2, m3, m4, e1, e2, e3, addG_s, subG_s, Int.zero_add, modG_s (b := 2 * w - 1) (by omega)]
  refine ⟨_, _, rfl, k3, ?_⟩
  have q1 := Int.emod_nonneg ((x1 * 10 ^ 20 + x2) * 10 ^ 20 + x3) (b := 2 * w - 1) (by omega)
  have q2 := Int.emod_lt_of_pos ((x1 * 10 ^ 20 + x2) * 10 ^ 20 + x3) (b := 2 * w - 1) (by omega)
  omega
theorem skI : ∀ l : List Int, Sk.ok l = true := fun l => List.all_eq_true.mpr fun _ _ => rfl
theorem skR : ∀ l : List (List Int), Sk.ok l = true := fun l => List.all_eq_true.mpr fun _ _ => skI _
theorem eqR {a b : List (List Int)} : eqDG a b = some (decide (a = b)) := if_pos ⟨skR _, skR _⟩
theorem neR {a b : List (List Int)} : neDG a b = some (!decide (a = b)) := if_pos ⟨skR _, skR _⟩
theorem srt_uniq {l m : List (List Int)} (h : l.Perm m) : srtT l = srtT m := srtd_uniq (srtT_srtd l) (srtT_srtd m) (((srtT_perm l).trans h).trans (srtT_perm m).symm)
theorem dNotInG_s {β : Type} {ds : List (List Int × β)} {k : List Int} : dNotInG k ds = some (!decide (∃ d ∈ ds, d.1 = k)) := by
  unfold dNotInG
  refine congrArg some ?_
  by_cases q : ∃ d ∈ ds, d.1 = k
  · rw [decide_eq_true q]
    cases e : dGet ds k with
    | none => exact absurd q (by rintro ⟨d, h1, h2⟩; exact dGet_none.mp e d h1 h2)
    | some x => rfl
  · rw [decide_eq_false q, dGet_none.mpr fun d hd e => q ⟨d, hd, e⟩]
    rfl
theorem dInG_s {β : Type} {ds : List (List Int × β)} {k : List Int} : dInG k ds = some (decide (∃ d ∈ ds, d.1 = k)) := by
  have e : dNotInG k ds = (dInG k ds).map fun b => !b := rfl
  have := dNotInG_s (ds := ds) (k := k)
  rw [e] at this
  cases h : dInG k ds with
  | none => rw [h] at this; cases this
  | some b =>
    rw [h] at this
    have := Option.some.inj this
    refine congrArg some ?_
    cases b <;> simpa using this
def tk (l : List (List Int)) : List (List Int × Bool) := l.map fun p => (p, true)
theorem tk_mem {l : List (List Int)} {k : List Int} : (∃ d ∈ tk l, d.1 = k) ↔ k ∈ l := by
  unfold tk
  constructor
  · rintro ⟨d, hd, rfl⟩
    obtain ⟨p, hp, rfl⟩ := List.mem_map.mp hd
    exact hp
  · intro h
    exact ⟨_, List.mem_map.mpr ⟨k, h, rfl⟩, rfl⟩
def addG' (base step : List Int) (i : Nat) (k_ : Int) : Option Int := o2 addG (ixG base k_) (o2 mulG (ixG step k_) (some (i : Int)))
theorem row_ok {t : List Int} (h : Ok t) {n : Nat} (hn : n ≤ 3) {w : Int} (w0 : 0 < w) (w1 : w ≤ 10 ^ 39) : W ((some (rngL 0 (n : Int))).bind fun l => sLc (fun (k_ : Int) => fun spring_here => (s2 (fun a b s => sK s (addG a b)) (s2 (fun a b s => sK s (subG a b)) (s1 (fun a0 s => m_sip s a0) (sP (o2 subG (o2 mulG (some 2) (some w)) (some 1)) spring_here)) fun spring_here => (sP (some w) spring_here)) fun spring_here => (sP (some 1) spring_here))) l t) fun r => (r.1.length = n ∧ ∀ v ∈ r.1, v.natAbs < 10 ^ 59) ∧ Ok r.2 := by
  refine W_slcR (Q := fun r : List Int × List Int => (r.1.length = n ∧ ∀ v ∈ r.1, v.natAbs < 10 ^ 59) ∧ Ok r.2) (fun _ g => Ok g) (fun v => v.natAbs < 10 ^ 59) (by omega) h (fun i g _ hg => ?_) fun xs g' hl hb hk => ⟨⟨hl, hb⟩, hk⟩
  have m2 : mulG 2 w = some (2 * w) := mulG_l (by decide)
  obtain ⟨x, t, e, k, x0, x1⟩ := sip_ok hg (m := 2 * w - 1) (by omega) (by omega)
  simp only [o2_s, m2, subG_s, sP_s, s1_s, e, s2_s, sC_s, sK_s, addG_s]
  exact W_some ⟨by show (x - w + 1).natAbs < 10 ^ 59; omega, k⟩
theorem spots_okB {t : List Int} (h : Ok t) {n : Nat} (hn : n = 2 ∨ n = 3) {many : Nat} (hm : many ≤ 2000) {held : List (List Int)} (hh : ∀ p ∈ held, p.length = n) (hd : held.Nodup) (hl : held.length ≤ 2000) :
    W (m_spots t (n : Int) (many : Int) held) fun r => ((∀ p ∈ r.1, p.length = n ∧ ∀ v ∈ p, v.natAbs < 10 ^ 59) ∧ (held ++ r.1).Nodup ∧ r.1.length ≤ many) ∧ Ok r.2 := by
  have n3 : n ≤ 3 := by omega
  have n0 : 0 < n := by omega
  unfold m_spots
  obtain ⟨x1, t1, e1, k1, a1, b1⟩ := sip_ok h (m := 4) (by decide) (by decide)
  obtain ⟨w, f1, w0, w1⟩ : ∃ w, ixG [(2 : Int), 4, 41, 10 ^ 39] x1 = some w ∧ 0 < w ∧ w ≤ 10 ^ 39 := by
    obtain rfl | rfl | rfl | rfl : x1 = 0 ∨ x1 = 1 ∨ x1 = 2 ∨ x1 = 3 := by omega
    all_goals exact ⟨_, rfl, by decide, by decide⟩
  simp only [sP_s, s1_s, e1, bind_s, o2_s, f1, o1_s]
  rw [rngG_s (n := (n : Int)) (by omega) (by omega)]
  simp only [bind_s]
  refine W_then (W_slcR (Q := fun r : List Int × List Int => (r.1.length = n ∧ ∀ v ∈ r.1, v.natAbs ≤ 10 ^ 39) ∧ Ok r.2) (fun _ g => Ok g) (fun v => v.natAbs ≤ 10 ^ 39) (by omega) k1 (fun i g _ hg => ?_) fun xs g' hl hb hk => ⟨⟨hl, hb⟩, hk⟩) fun ⟨base, t2⟩ ⟨⟨lb, bb⟩, k2⟩ => ?_
  · obtain ⟨x, t, e, k, hx⟩ := far_ok hg w0
    simp only [sP_s, s1_s, e]
    exact W_some ⟨by show x.natAbs ≤ 10 ^ 39; omega, k⟩
  have lb : base.length = n := lb
  have bb : ∀ v ∈ base, v.natAbs ≤ 10 ^ 39 := bb
  have k2 : Ok t2 := k2
  dsimp only
  refine W_then (W_slcR (Q := fun r : List Int × List Int => (r.1.length = n ∧ ∀ v ∈ r.1, v.natAbs ≤ 3) ∧ Ok r.2) (fun _ g => Ok g) (fun v => v.natAbs ≤ 3) (by omega) k2 (fun i g _ hg => ?_) fun xs g' hl hb hk => ⟨⟨hl, hb⟩, hk⟩) fun ⟨step, t3⟩ ⟨⟨ls, bs⟩, k3⟩ => ?_
  · obtain ⟨x, t, e, k, a, b⟩ := sip_ok hg (m := 7) (by decide) (by decide)
    simp only [sP_s, s1_s, e, s2_s, sC_s, sK_s, subG_s]
    exact W_some ⟨by show (x - 3).natAbs ≤ 3; omega, k⟩
  have ls : step.length = n := ls
  have bs : ∀ v ∈ step, v.natAbs ≤ 3 := bs
  have k3 : Ok t3 := k3
  have fill := fill_ok (β := Bool) (w := true) (n := n) (f := fun (spot : List Int) (taken : List (List Int × Bool)) => (dPutG taken spot true).bind fun taken => some taken) (fun p ds _ h2 h3 => by rw [dPutG_new h2 h3, bind_s]) held [] hh hd (fun _ _ _ hd => by simp at hd) (by simp; omega)
  dsimp only
  rw [fill, bind_s, rngG_s (n := (many : Int)) (by omega) (by omega), bind_s]
  have m2 : mulG 2 w = some (2 * w) := mulG_l (by decide)
  refine W_then (P := fun r : List Int × (List (List Int × Bool)) × (List (List Int)) => ((∀ p ∈ r.2.2, p.length = n ∧ ∀ v ∈ p, v.natAbs < 10 ^ 59) ∧ (held ++ r.2.2).Nodup ∧ r.2.2.length ≤ many) ∧ Ok r.1) (W_foldR (fun i r => r.2.1 = tk (held ++ r.2.2) ∧ ((∀ p ∈ r.2.2, p.length = n ∧ ∀ v ∈ p, v.natAbs < 10 ^ 59) ∧ (held ++ r.2.2).Nodup ∧ r.2.2.length ≤ i) ∧ Ok r.1) ⟨by unfold tk; simp, ⟨by simp, by simpa using hd, by simp⟩, k3⟩ (fun i r hi hr => ?_) fun r hr => hr.2) fun ⟨t4, taken, found⟩ ⟨h1, h2⟩ => W_some ⟨h1, h2⟩
  obtain ⟨u, taken, found⟩ := r
  have hr : taken = tk (held ++ found) ∧ ((∀ p ∈ found, p.length = n ∧ ∀ v ∈ p, v.natAbs < 10 ^ 59) ∧ (held ++ found).Nodup ∧ found.length ≤ i) ∧ Ok u := hr
  obtain ⟨rfl, ⟨g1, g2, g3⟩, g4⟩ := hr
  have g1 : ∀ p ∈ found, p.length = n ∧ ∀ v ∈ p, v.natAbs < 10 ^ 59 := g1
  have g2 : (held ++ found).Nodup := g2
  have g3 : found.length ≤ i := g3
  have g4 : Ok u := g4
  have mk : oLc yes (fun (k_ : Int) => (addG' base step i k_)) (rngL 0 (n : Int)) = some ((List.range n).map fun k => base.getD k 0 + step.getD k 0 * (i : Int)) := lc_rng (by omega) fun k hk => by
    unfold addG'
    have q : mulG (step[k]'(by omega)) (i : Int) = some (step[k]'(by omega) * (i : Int)) := mulG_l (by have := bs _ (List.getElem_mem (h := (by omega : k < step.length))); omega)
    rw [ixG_i (by omega), ixG_i (by omega), o2_s, q, o2_s, addG_s]
    simp [show k < base.length by omega, show k < step.length by omega]
  unfold addG' at mk
  dsimp only
  rw [o1_s, mk, bind_s]
  refine W_then (P := fun r : List Int × List Int => (r.1.length = n ∧ ∀ v ∈ r.1, v.natAbs < 10 ^ 59) ∧ Ok r.2) ?_ fun ⟨made, v⟩ ⟨p1, p2⟩ => ?_
  · by_cases q : (decide (x1 < 3) && decide ((many : Int) < 12)) = true
    · rw [if_pos q]
      have := row_ok (t := u) g4 n3 w0 w1
      simp only [bind_s, o2_s, m2] at this ⊢
      refine W_then this fun r hr => W_some hr
    · rw [if_neg q]
      refine W_some ⟨⟨by simp, fun v hv => ?_⟩, g4⟩
      obtain ⟨k, hk, rfl⟩ := List.mem_map.mp hv
      have hk := List.mem_range.mp hk
      have e1 : base.getD k 0 = base[k]'(by omega) := by simp [show k < base.length by omega]
      have e2 : step.getD k 0 = step[k]'(by omega) := by simp [show k < step.length by omega]
      have h1 := bb _ (List.getElem_mem (h := (by omega : k < base.length)))
      have h2 := bs _ (List.getElem_mem (h := (by omega : k < step.length)))
      rw [← e1] at h1
      rw [← e2] at h2
      have h3 : (step.getD k 0 * (i : Int)).natAbs ≤ 3 * 2000 := by
        rw [Int.natAbs_mul, Int.natAbs_natCast]
        exact Nat.mul_le_mul h2 (by omega)
      show (base.getD k 0 + step.getD k 0 * (i : Int)).natAbs < 10 ^ 59
      generalize step.getD k 0 * (i : Int) = z at *
      omega
  have p1 : made.length = n ∧ ∀ v ∈ made, v.natAbs < 10 ^ 59 := p1
  have p2 : Ok v := p2
  dsimp only
  rw [dNotInG_s, bind_s]
  by_cases q : made ∈ held ++ found
  · rw [decide_eq_true (tk_mem.mpr q)]
    exact W_some ⟨rfl, ⟨g1, g2, by show found.length ≤ i + 1; omega⟩, p2⟩
  · rw [decide_eq_false (fun z => q (tk_mem.mp z)), Bool.not_false, if_pos rfl]
    rw [dPutG_new (fun d hd e => q (tk_mem.mp ⟨d, hd, e⟩)) (by unfold tk; simp; omega), bind_s, appG_s (by omega), bind_s]
    refine W_some ⟨?_, ⟨fun p hp => ?_, ?_, ?_⟩, p2⟩
    · show tk (held ++ found) ++ [(made, true)] = tk (held ++ (found ++ [made]))
      unfold tk
      simp
    · rcases List.mem_append.mp hp with hp | hp
      · exact g1 p hp
      · rw [List.mem_singleton.mp hp]; exact p1
    · show (held ++ (found ++ [made])).Nodup
      rw [← List.append_assoc]
      refine List.nodup_append.mpr ⟨g2, by simp, fun a ha b hb e => ?_⟩
      rw [List.mem_singleton.mp hb] at e
      exact q (e ▸ ha)
    · show (found ++ [made]).length ≤ i + 1
      rw [List.length_append]
      show found.length + 1 ≤ _
      omega
def Bd (l : List (List Int)) : Prop := ∀ p ∈ l, ∀ v ∈ p, v.natAbs < 10 ^ 59
theorem parts_okB {t : List Int} (h : Ok t) {n : Nat} (hn : n = 2 ∨ n = 3) {most : Nat} (hm : most ≤ 1000) : W (m_parts t (n : Int) (most : Int)) fun r => ((Pc n r.1.1 r.1.2 ∧ Bd (r.1.1 ++ r.1.2)) ∧ r.1.1.length ≤ most ∧ r.1.2.length ≤ most) ∧ Ok r.2 := by
  unfold m_parts
  obtain ⟨x, t1, e, k, a, b⟩ := sip_ok h (m := (most : Int) + 1) (by omega) (by omega)
  obtain ⟨X, rfl⟩ : ∃ X : Nat, x = (X : Int) := ⟨x.toNat, by omega⟩
  obtain ⟨⟨lit, t2⟩, e2, ⟨l1, l2, l3⟩, k2⟩ := spots_okB k hn (many := X) (by omega) (held := []) (by simp) (by simp) (by simp)
  obtain ⟨y, t3, e3, k3, a3, b3⟩ := sip_ok k2 (m := (most : Int) + 1) (by omega) (by omega)
  obtain ⟨Y, rfl⟩ : ∃ X : Nat, y = (X : Int) := ⟨y.toNat, by omega⟩
  have l2 : lit.Nodup := by simpa using l2
  have l3 : lit.length ≤ X := l3
  obtain ⟨⟨dim, t4⟩, e4, ⟨d1, d2, d3⟩, k4⟩ := spots_okB k3 hn (many := Y) (by omega) (held := lit) (fun p hp => (l1 p hp).1) l2 (by omega)
  have d3 : dim.length ≤ Y := d3
  simp only [s3, sP_s, sC_s, s1_s, e, e2, bind_s, s2_s, e3, e4]
  exact W_some ⟨⟨⟨⟨hn, fun p hp => (l1 p hp).1, fun p hp => (d1 p hp).1, d2, by show lit.length + dim.length ≤ _; omega⟩, fun p hp => (List.mem_append.mp hp).elim (fun hp => (l1 p hp).2) fun hp => (d1 p hp).2⟩, by show lit.length ≤ _; omega, by show dim.length ≤ _; omega⟩, k4⟩
theorem wds_len {s h : List (List Int)} : (wds s h).length = s.length + h.length := by unfold wds; simp
theorem eq_ok {n : Nat} {s h s2 h2 : List (List Int)} : m_Picture___eq__ (pic n s h) (pic n s2 h2) = some (decide (srtT s = srtT s2) && decide (srtT h = srtT h2)) := by
  unfold m_Picture___eq__ pic
  simp only [Bool.not_true, decide_true, Bool.or_self, bind_s, Bool.false_eq_true, if_false, o2_s, eqR]
  cases decide (srtT s = srtT s2) <;> rfl
theorem eq_same {n : Nat} {s h s2 h2 : List (List Int)} (hs : s.Perm s2) (hh : h.Perm h2) : m_Picture___eq__ (pic n s h) (pic n s2 h2) = some true := by
  rw [eq_ok, srt_uniq hs, srt_uniq hh, decide_eq_true rfl, decide_eq_true rfl]
  rfl
theorem mem_wds {s h : List (List Int)} {p : List Int} : (∃ d ∈ wds s h, d.1 = p) ↔ p ∈ s ++ h := by
  unfold wds
  constructor
  · rintro ⟨d, hd, rfl⟩
    rcases List.mem_append.mp hd with hd | hd
    · obtain ⟨q, hq, rfl⟩ := List.mem_map.mp hd
      exact List.mem_append_left _ hq
    · obtain ⟨q, hq, rfl⟩ := List.mem_map.mp hd
      exact List.mem_append_right _ hq
  · intro hp
    rcases List.mem_append.mp hp with hp | hp
    · exact ⟨_, List.mem_append_left _ (List.mem_map.mpr ⟨p, hp, rfl⟩), rfl⟩
    · exact ⟨_, List.mem_append_right _ (List.mem_map.mpr ⟨p, hp, rfl⟩), rfl⟩
theorem shifted_perm {n : Nat} {s h : List (List Int)} (c : Pc n s h) {v : List Int} (hv : v.length = n) : ∃ s2 h2, m_Picture_shifted (pic n s h) v = some (pic n s2 h2) ∧ Pc n s2 h2 ∧ s2.Perm (s.map fun p => pl p v) ∧ h2.Perm (h.map fun p => pl p v) := by
  obtain ⟨e, c2⟩ := shifted_ok c hv
  exact ⟨_, _, e, c2, (srtT_perm s).map _, (srtT_perm h).map _⟩
theorem notin_ok {l m : List (List Int)} (hl : l.length ≤ 16000000) : oLc (fun (spot : List Int) => notInDG spot m) (fun (spot : List Int) => some spot) l = some (l.filter fun p => !decide (p ∈ m)) := by
  rw [lc_ok (p := fun spot => !decide (spot ∈ m)) (h := fun x => x) hl (fun a _ => by unfold notInDG; rw [if_pos ⟨skI _, skR _⟩]; congr) fun _ _ _ => rfl, List.map_id']
theorem dnotin_ok {l s h : List (List Int)} (hl : l.length ≤ 16000000) : oLc (fun (place : List Int) => dNotInG place (wds s h)) (fun (place : List Int) => some place) l = some (l.filter fun p => !decide (p ∈ s ++ h)) := by
  rw [lc_ok (p := fun spot => !decide (spot ∈ s ++ h)) (h := fun x => x) hl (fun a _ => ?_) fun _ _ _ => rfl, List.map_id']
  rw [dNotInG_s]
  refine congrArg some (congrArg (fun b => !b) ?_)
  by_cases q : a ∈ s ++ h
  · rw [decide_eq_true q, decide_eq_true (mem_wds.mpr q)]
  · rw [decide_eq_false q, decide_eq_false fun z => q (mem_wds.mp z)]
theorem Pc.filt {n : Nat} {s h : List (List Int)} (c : Pc n s h) (p q : List Int → Bool) : Pc n (s.filter p) (h.filter q) := ⟨c.two, fun x hx => c.s x (List.mem_filter.mp hx).1, fun x hx => c.h x (List.mem_filter.mp hx).1, c.nd.sublist (List.filter_sublist.append List.filter_sublist), by
  have := c.le
  have h1 := List.length_filter_le p s
  have h2 := List.length_filter_le q h
  omega⟩
/-! lists that are drawn item by item, with what ties each item to its own -/
inductive PW {α β : Type} (R : α → β → Prop) : List α → List β → Prop
  | nil : PW R [] []
  | cons {a b l m} : R a b → PW R l m → PW R (a :: l) (b :: m)
theorem PW.len {α β : Type} {R : α → β → Prop} : ∀ {l : List α} {m : List β}, PW R l m → m.length = l.length
  | _, _, .nil => rfl
  | _, _, .cons _ h => by rw [List.length_cons, List.length_cons, h.len]
theorem PW.src {α β : Type} {R : α → β → Prop} : ∀ {l : List α} {m : List β}, PW R l m → ∀ x ∈ m, ∃ a ∈ l, R a x
  | _, _, .nil, x, hx => by cases hx
  | _, _, .cons h t, x, hx => by
    rcases List.mem_cons.mp hx with rfl | hx
    · exact ⟨_, List.mem_cons_self, h⟩
    · obtain ⟨a, ha, r⟩ := t.src x hx
      exact ⟨a, List.mem_cons_of_mem _ ha, r⟩
theorem PW.nd {α β : Type} {R : α → β → Prop} (inj : ∀ a b x, R a x → R b x → a = b) : ∀ {l : List α} {m : List β}, PW R l m → l.Nodup → m.Nodup
  | _, _, .nil, _ => List.nodup_nil
  | a :: l, x :: m, .cons h t, nd => by
    obtain ⟨h1, h2⟩ := List.nodup_cons.mp nd
    refine List.nodup_cons.mpr ⟨fun z => ?_, t.nd inj h2⟩
    obtain ⟨b, hb, r⟩ := t.src x z
    exact h1 (inj a b x h r ▸ hb)
theorem PW.ix {α β : Type} {R : α → β → Prop} : ∀ {l : List α} {m : List β}, PW R l m → ∀ i (h1 : i < l.length) (h2 : i < m.length), R l[i] m[i]
  | _, _, .cons h t, 0, _, _ => h
  | _, _, .cons h t, i + 1, h1, h2 => t.ix i (by simpa using h1) (by simpa using h2)
theorem perm_of {a b : List (List Int)} (ha : a.Nodup) (hb : b.Nodup) (h : ∀ p, p ∈ a ↔ p ∈ b) : a.Perm b := (List.perm_ext_iff_of_nodup ha hb).mpr h
theorem dGet_seen {s h : List (List Int)} {p : List Int} (hp : p ∈ s) : dGet (wds s h) p = some ("seen" : Str) := by
  unfold dGet wds
  rw [List.find?_append]
  cases e : (s.map fun q => (q, ("seen" : Str))).find? fun d => decide (d.1 = p) with
  | none =>
    have := List.find?_eq_none.mp e (p, "seen") (List.mem_map.mpr ⟨p, hp, rfl⟩)
    simp at this
  | some d =>
    obtain ⟨q, _, rfl⟩ := List.mem_map.mp (List.mem_of_find?_eq_some e)
    rfl
theorem dGet_hidden {s h : List (List Int)} {p : List Int} (hs : p ∉ s) (hp : p ∈ h) : dGet (wds s h) p = some ("hidden" : Str) := by
  unfold dGet wds
  rw [List.find?_append]
  have e0 : ((s.map fun q => (q, ("seen" : Str))).find? fun d => decide (d.1 = p)) = none := List.find?_eq_none.mpr fun d hd z => by
    obtain ⟨q, hq, rfl⟩ := List.mem_map.mp hd
    exact hs (of_decide_eq_true z ▸ hq)
  rw [e0]
  cases e : (h.map fun q => (q, ("hidden" : Str))).find? fun d => decide (d.1 = p) with
  | none =>
    have := List.find?_eq_none.mp e (p, "hidden") (List.mem_map.mpr ⟨p, hp, rfl⟩)
    simp at this
  | some d =>
    obtain ⟨q, _, rfl⟩ := List.mem_map.mp (List.mem_of_find?_eq_some e)
    rfl
def bad (s h s2 h2 : List (List Int)) (p : List Int) : Bool := decide (p ∈ s ∧ p ∈ h2 ∨ p ∈ h ∧ p ∈ s2)
theorem keys_wds {s h : List (List Int)} : (wds s h).map (fun x => x.1) = s ++ h := by
  unfold wds
  rw [List.map_append, List.map_map, List.map_map]
  show s.map (fun x => x) ++ h.map (fun x => x) = _
  rw [List.map_id', List.map_id']
theorem or_test {n : Nat} {s h s2 h2 : List (List Int)} (c : Pc n s h) (c2 : Pc n s2 h2) {p : List Int} (hp : p ∈ s ++ h) : oAnd (dInG p (wds s2 h2)) (o2 neG (dGetG (wds s2 h2) p) (dGetG (wds s h) p)) = some (bad s h s2 h2 p) := by
  obtain ⟨_, _, d1⟩ := List.nodup_append.mp c.nd
  obtain ⟨_, _, d2⟩ := List.nodup_append.mp c2.nd
  rw [dInG_s]
  have q : decide (∃ d ∈ wds s2 h2, d.1 = p) = decide (p ∈ s2 ++ h2) := by
    by_cases q : p ∈ s2 ++ h2
    · rw [decide_eq_true q, decide_eq_true (mem_wds.mpr q)]
    · rw [decide_eq_false q, decide_eq_false fun z => q (mem_wds.mp z)]
  rw [q]
  unfold dGetG bad
  by_cases q2 : p ∈ s2 ++ h2
  · rw [decide_eq_true q2, oAnd_t]
    rcases List.mem_append.mp hp with h1 | h1 <;> rcases List.mem_append.mp q2 with h3 | h3
    · rw [dGet_seen h1, dGet_seen h3, o2_s, neG_s, decide_eq_true rfl, decide_eq_false]
      · rfl
      · rintro (⟨_, z⟩ | ⟨z, _⟩)
        · exact d2 p h3 p z rfl
        · exact d1 p h1 p z rfl
    · rw [dGet_seen h1, dGet_hidden (fun z => d2 p z p h3 rfl) h3, o2_s, neG_s, decide_eq_true (p := p ∈ s ∧ p ∈ h2 ∨ p ∈ h ∧ p ∈ s2) (.inl ⟨h1, h3⟩)]
      rfl
    · rw [dGet_hidden (fun z => d1 p z p h1 rfl) h1, dGet_seen h3, o2_s, neG_s, decide_eq_true (p := p ∈ s ∧ p ∈ h2 ∨ p ∈ h ∧ p ∈ s2) (.inr ⟨h1, h3⟩)]
      rfl
    · rw [dGet_hidden (fun z => d1 p z p h1 rfl) h1, dGet_hidden (fun z => d2 p z p h3 rfl) h3, o2_s, neG_s, decide_eq_true rfl, decide_eq_false]
      · rfl
      · rintro (⟨z, _⟩ | ⟨_, z⟩)
        · exact d1 p z p h1 rfl
        · exact d2 p z p h3 rfl
  · rw [decide_eq_false q2, oAnd_f, decide_eq_false]
    rintro (⟨_, z⟩ | ⟨_, z⟩)
    · exact q2 (List.mem_append_right _ z)
    · exact q2 (List.mem_append_left _ z)
theorem or_loop {n : Nat} {s h s2 h2 : List (List Int)} (c : Pc n s h) (c2 : Pc n s2 h2) : oLoop (γ := Unit) (ρ := Except Er (Int × (List (List Int × PySem.Str)) × (List (List Int)) × (List (List Int)))) (fun (place : List Int) (_ : Unit) => (oAnd (dInG place (wds s2 h2)) (o2 neG (dGetG (wds s2 h2) place) (dGetG (wds s h) place))).bind fun b => if b = true then some (.ret (.error ⟨"Conflict", .tup place⟩)) else some (.go ())) (srtT (s ++ h)) () = some (match ((s ++ h).filter (bad s h s2 h2) |> srtT).head? with
    | none => .nx ()
    | some p => .ret (.error ⟨"Conflict", .tup p⟩)) := by
  rw [loop_find (p := bad s h s2 h2) (r := fun p => Except.error ⟨"Conflict", .tup p⟩) fun p hp => by
    rw [or_test c c2 ((srtT_perm _).mem_iff.mp hp), bind_s]]
  have e : srtT ((s ++ h).filter (bad s h s2 h2)) = (srtT (s ++ h)).filter (bad s h s2 h2) := by
    refine srtd_uniq (srtT_srtd _) ((srtT_srtd _).filter _) ?_
    exact (srtT_perm _).trans ((srtT_perm _).filter _).symm
  rw [e, List.head?_filter]
  cases (srtT (s ++ h)).find? (bad s h s2 h2) <;> rfl
theorem or_ok {n : Nat} {s h s2 h2 : List (List Int)} (c : Pc n s h) (c2 : Pc n s2 h2) (l1 : s.length + h.length ≤ 400000) (l2 : s2.length + h2.length ≤ 400000) (nb : ∀ p, ¬ (p ∈ s ∧ p ∈ h2 ∨ p ∈ h ∧ p ∈ s2)) : ∃ S H, m_Picture___or__ (pic n s h) (pic n s2 h2) = some (.ok (pic n S H)) ∧ Pc n S H ∧ (∀ p, p ∈ S ↔ p ∈ s ∨ p ∈ s2) ∧ (∀ p, p ∈ H ↔ p ∈ h ∨ p ∈ h2) ∧ S.length + H.length ≤ s.length + h.length + (s2.length + h2.length) := by
  have n0 : 0 < n := by have := c.two; omega
  have a1 := c.srt
  have a2 := c2.srt
  have z1 : (srtT s).length = s.length := (srtT_perm s).length_eq
  have z2 : (srtT h).length = h.length := (srtT_perm h).length_eq
  have z3 : (srtT s2).length = s2.length := (srtT_perm s2).length_eq
  have z4 : (srtT h2).length = h2.length := (srtT_perm h2).length_eq
  have z5 := List.length_filter_le (fun p => !decide (p ∈ s ++ h)) (srtT s2)
  have z6 := List.length_filter_le (fun p => !decide (p ∈ s ++ h)) (srtT h2)
  have m1 : ∀ p, p ∈ srtT s ↔ p ∈ s := fun p => (srtT_perm s).mem_iff
  have m2 : ∀ p, p ∈ srtT h ↔ p ∈ h := fun p => (srtT_perm h).mem_iff
  have m3 : ∀ p, p ∈ srtT s2 ↔ p ∈ s2 := fun p => (srtT_perm s2).mem_iff
  have m4 : ∀ p, p ∈ srtT h2 ↔ p ∈ h2 := fun p => (srtT_perm h2).mem_iff
  have cS : Pc n (srtT s ++ (srtT s2).filter fun p => !decide (p ∈ s ++ h)) (srtT h ++ (srtT h2).filter fun p => !decide (p ∈ s ++ h)) := by
    refine ⟨c.two, fun p hp => ?_, fun p hp => ?_, ?_, by simp only [List.length_append]; omega⟩
    · rcases List.mem_append.mp hp with hp | hp
      · exact a1.s p hp
      · exact a2.s p (List.mem_filter.mp hp).1
    · rcases List.mem_append.mp hp with hp | hp
      · exact a1.h p hp
      · exact a2.h p (List.mem_filter.mp hp).1
    · have n1 := a1.nd
      have n2 := a2.nd
      simp only [List.nodup_append] at n1 n2 ⊢
      have e1 := n2.1.sublist (List.filter_sublist (p := fun p => !decide (p ∈ s ++ h)))
      have e2 := n2.2.1.sublist (List.filter_sublist (p := fun p => !decide (p ∈ s ++ h)))
      have f1 : ∀ p, p ∈ (srtT s2).filter (fun p => !decide (p ∈ s ++ h)) ↔ p ∈ srtT s2 ∧ p ∉ s ∧ p ∉ h := fun p => by simp [List.mem_filter]
      have f2 : ∀ p, p ∈ (srtT h2).filter (fun p => !decide (p ∈ s ++ h)) ↔ p ∈ srtT h2 ∧ p ∉ s ∧ p ∉ h := fun p => by simp [List.mem_filter]
      grind
  refine ⟨_, _, ?_, cS, fun p => ?_, fun p => ?_, by simp only [List.length_append]; omega⟩
  · unfold m_Picture___or__
    have e1 : (pic n s h).1 = (n : Int) := rfl
    have e2 : (pic n s2 h2).1 = (n : Int) := rfl
    have e3 : (pic n s h).2.1 = wds s h := rfl
    have e4 : (pic n s2 h2).2.1 = wds s2 h2 := rfl
    have e5 : (pic n s h).2.2.1 = srtT s := rfl
    have e6 : (pic n s h).2.2.2 = srtT h := rfl
    have e7 : (pic n s2 h2).2.2.1 = srtT s2 := rfl
    have e8 : (pic n s2 h2).2.2.2 = srtT h2 := rfl
    have so : sortG (s ++ h) = some (srtT (s ++ h)) := sortG_s (n := n) (fun p hp => (List.mem_append.mp hp).elim (c.s p) (c.h p)) n0 (by rw [List.length_append]; omega)
    have fe : (s ++ h).filter (bad s h s2 h2) = [] := List.filter_eq_nil_iff.mpr fun p _ z => nb p (of_decide_eq_true z)
    have lp := or_loop c c2
    rw [fe, List.Perm.eq_nil (srtT_perm [])] at lp
    have d1 := dnotin_ok (l := srtT s2) (s := s) (h := h) (by omega)
    have d2 := dnotin_ok (l := srtT h2) (s := s) (h := h) (by omega)
    simp only [e1, e2, e3, e4, e5, e6, e7, e8, decide_true, Bool.not_true, bind_s, Bool.false_eq_true, if_false, Option.map_some, keys_wds, o1_s, so, o2_s]
    rw [lp]
    simp only [bind_s]
    show (o2 catG (some (srtT s)) (oLc (fun (place : List Int) => dNotInG place (wds s h)) (fun (place : List Int) => some place) (srtT s2))).bind _ = _
    rw [d1, o2_s, catG_s (by omega), bind_s]
    rw [d2, o2_s, catG_s (by omega), bind_s, o3_s, pic_ok cS, bind_s]
  · rw [List.mem_append, List.mem_filter, m1, m3]
    have := nb p
    by_cases q1 : p ∈ s <;> by_cases q2 : p ∈ s2 <;> by_cases q3 : p ∈ h <;> simp_all
  · rw [List.mem_append, List.mem_filter, m2, m4]
    have := nb p
    by_cases q1 : p ∈ h <;> by_cases q2 : p ∈ h2 <;> by_cases q3 : p ∈ s <;> simp_all
theorem or_bad {n : Nat} {s h s2 h2 A : List (List Int)} {p : List Int} (c : Pc n s h) (c2 : Pc n s2 h2) (l1 : s.length + h.length ≤ 400000) (hA : A.Nodup) (mA : ∀ q, q ∈ A ↔ q ∈ s ∧ q ∈ h2 ∨ q ∈ h ∧ q ∈ s2) (hp : (srtT A).head? = some p) : m_Picture___or__ (pic n s h) (pic n s2 h2) = some (.error ⟨"Conflict", .tup p⟩) := by
  have n0 : 0 < n := by have := c.two; omega
  have pe : A.Perm ((s ++ h).filter (bad s h s2 h2)) := perm_of hA (c.nd.sublist List.filter_sublist) fun q => by
    rw [mA, List.mem_filter]
    unfold bad
    rw [decide_eq_true_eq, List.mem_append]
    constructor
    · intro z; exact ⟨z.elim (fun z => .inl z.1) (fun z => .inr z.1), z⟩
    · intro z; exact z.2
  rw [srt_uniq pe] at hp
  unfold m_Picture___or__
  have e1 : (pic n s h).1 = (n : Int) := rfl
  have e2 : (pic n s2 h2).1 = (n : Int) := rfl
  have e3 : (pic n s h).2.1 = wds s h := rfl
  have e4 : (pic n s2 h2).2.1 = wds s2 h2 := rfl
  have so : sortG (s ++ h) = some (srtT (s ++ h)) := sortG_s (n := n) (fun p hp => (List.mem_append.mp hp).elim (c.s p) (c.h p)) n0 (by rw [List.length_append]; omega)
  have lp := or_loop c c2
  rw [hp] at lp
  simp only [e1, e2, e3, e4, decide_true, Bool.not_true, bind_s, Bool.false_eq_true, if_false, Option.map_some, keys_wds, o1_s, so, o2_s]
  rw [lp]
  rfl
theorem G.bd {n B C : Nat} {R : List (List Int)} (h : G n B R) (hb : ∀ r ∈ R, ∀ v ∈ r, v.natAbs ≤ C) : G n C R := by
  rcases h with ⟨rfl, a, b, c, d, rfl, hD, _⟩ | ⟨rfl, a, b, c, d, e, f, g, h, k, rfl, hD, _⟩
  · exact .inl ⟨rfl, a, b, c, d, rfl, hD, hb [a, b] (by simp) a (by simp), hb [a, b] (by simp) b (by simp), hb [c, d] (by simp) c (by simp), hb [c, d] (by simp) d (by simp)⟩
  · exact .inr ⟨rfl, a, b, c, d, e, f, g, h, k, rfl, hD, ⟨hb [a, b, c] (by simp) a (by simp), hb [a, b, c] (by simp) b (by simp), hb [a, b, c] (by simp) c (by simp)⟩, ⟨hb [d, e, f] (by simp) d (by simp), hb [d, e, f] (by simp) e (by simp), hb [d, e, f] (by simp) f (by simp)⟩, hb [g, h, k] (by simp) g (by simp), hb [g, h, k] (by simp) h (by simp), hb [g, h, k] (by simp) k (by simp)⟩
theorem G.all {n B : Nat} {R : List (List Int)} (h : G n B R) : ∀ r ∈ R, ∀ v ∈ r, v.natAbs ≤ B := by
  rcases h with ⟨rfl, a, b, c, d, rfl, hD, h1, h2, h3, h4⟩ | ⟨rfl, a, b, c, d, e, f, g, h, k, rfl, hD, ⟨h1, h2, h3⟩, ⟨h4, h5, h6⟩, h7, h8, h9⟩
  all_goals
    intro r hr v hv
    simp only [List.mem_cons, List.not_mem_nil, or_false] at hr
    rcases hr with rfl | rfl | rfl
    all_goals
      simp only [List.mem_cons, List.not_mem_nil, or_false] at hv
      rcases hv with rfl | rfl | rfl
      all_goals assumption
theorem addrow {n : Nat} {R : List (List Int)} {p r : Nat} (hp : p < R.length) (hr : r < R.length) {t : Int} (hx : R[p].length = n) (hy : R[r].length = n) (hn : n ≤ 3) (ht : t.natAbs ≤ 49) : oLc yes (fun (k_ : Int) => (o2 addG (o2 ixG (ixG R (p : Int)) (some k_)) (o2 mulG (some t) (o2 ixG (ixG R (r : Int)) (some k_))))) (rngL 0 (n : Int)) = some (List.zipWith (fun a b => a + t * b) R[p] R[r]) := by
  rw [ixG_i hp, ixG_i hr]
  generalize R[p] = x at *
  generalize R[r] = y at *
  subst hx
  rw [lc_rng (h := fun i => x.getD i 0 + t * y.getD i 0) (by omega) fun i hi => by
    have hi' : i < y.length := by omega
    simp only [o2_s, ixG_i (l := y) hi', ixG_i (l := x) hi, mulG_l (a := t) (b := y[i]) (by omega), addG_s]
    simp [hi, hi']]
  exact congrArg some (range_zip (g := fun a b => a + t * b) hy.symm fun i h1 h2 => by simp [h1, h2])
theorem ident_ok {n : Nat} (h : n = 2 ∨ n = 3) : ∃ R, oLc yes (fun (k_ : Int) => (oLc yes (fun (j : Int) => (some (Mw.b2i (decide (k_ = j))))) (rngL 0 (n : Int)))) (rngL 0 (n : Int)) = some R ∧ G n 333 R := by
  rcases h with rfl | rfl
  · exact ⟨[[1, 0], [0, 1]], rfl, .inl ⟨rfl, 1, 0, 0, 1, rfl, by decide, by decide, by decide, by decide, by decide⟩⟩
  · exact ⟨[[1, 0, 0], [0, 1, 0], [0, 0, 1]], rfl, .inr ⟨rfl, 1, 0, 0, 0, 1, 0, 0, 0, 1, rfl, by decide, by decide, by decide, by decide, by decide, by decide⟩⟩
theorem big_ok {l : List Int} (hl : l.length ≤ 3) : (o2 eqDG (oLc (fun (value : Int) => (o2 gtG (maxG value (0 - value)) (some 333))) (fun (value : Int) => (some value)) l) (some [])) = some (decide (∀ v ∈ l, v.natAbs ≤ 333)) := by
  rw [lc_ok (p := fun v => decide (333 < max v (0 - v))) (h := fun v => v) (by omega) (fun a _ => by rw [maxG_s, o2_s, gtG_s]) fun _ _ _ => rfl, o2_s, eqDG_s]
  refine congrArg some ?_
  rw [List.map_id']
  by_cases q : ∀ v ∈ l, v.natAbs ≤ 333
  · rw [decide_eq_true q, decide_eq_true]
    refine List.filter_eq_nil_iff.mpr fun v hv z => ?_
    have := q v hv
    have := of_decide_eq_true z
    omega
  · rw [decide_eq_false q, decide_eq_false]
    intro z
    refine q fun v hv => ?_
    have := List.filter_eq_nil_iff.mp z v hv
    have : ¬ 333 < max v (0 - v) := fun y => this (decide_eq_true y)
    omega
theorem matrix_ok {t : List Int} (h : Ok t) {n : Nat} (h2 : n = 2 ∨ n = 3) : W (m_matrix t (n : Int)) fun r => G n 333 r.1 ∧ Ok r.2 := by
  unfold m_matrix
  have hn : n ≤ 3 := by omega
  obtain ⟨R0, e0, g0⟩ := ident_ok h2
  obtain ⟨x1, t1, e1, k1, a1, b1⟩ := sip_ok h (m := 8) (by decide) (by decide)
  obtain ⟨j, rfl⟩ : ∃ j : Nat, x1 = (j : Int) := ⟨x1.toNat, by omega⟩
  simp only [o1_s]
  rw [rngG_s (n := (n : Int)) (by omega) (by omega)]
  simp only [o1_s]
  rw [e0]
  simp only [bind_s, s1_s, sP_s, sC_s, sK_s, e1]
  rw [rngG_s (by omega) (by omega)]
  simp only [sK_s, bind_s]
  refine W_bind (W_foldR (fun i g => Ok g.1 ∧ G n 333 g.2) ⟨k1, g0⟩ (fun i g hi hg => ?_) fun g hg => ⟨_, rfl, hg.2, hg.1⟩)
  obtain ⟨g, R⟩ := g
  obtain ⟨hg, hs⟩ := hg
  have hg : Ok g := hg
  have hs : G n 333 R := hs
  obtain ⟨o, t3, e3, k3, a3, b3⟩ := sip_ok hg (m := (n : Int)) (by omega) (by omega)
  obtain ⟨y, t4, e4, k4, a4, b4⟩ := sip_ok k3 (m := (n : Int) - 1) (by omega) (by omega)
  obtain ⟨u1, t5, e5, k5, a5, b5⟩ := sip_ok k4 (m := 7) (by decide) (by decide)
  obtain ⟨u2, t6, e6, k6, a6, b6⟩ := sip_ok k5 (m := 99) (by decide) (by decide)
  obtain ⟨u3, t7, e7, k7, a7, b7⟩ := sip_ok k6 (m := 2) (by decide) (by decide)
  obtain ⟨u4, t8, e8, k8, a8, b8⟩ := sip_ok k7 (m := 3) (by decide) (by decide)
  obtain ⟨u5, t9, e9, k9, a9, b9⟩ := sip_ok k8 (m := 3) (by decide) (by decide)
  obtain ⟨p, rfl⟩ : ∃ p : Nat, o = (p : Int) := ⟨o.toNat, by omega⟩
  have hp : p < n := by omega
  obtain ⟨r, er, hr, pr⟩ : ∃ r : Nat, ((p : Int) + 1 + y) % (n : Int) = (r : Int) ∧ r < n ∧ p ≠ r := by
    refine ⟨(((p : Int) + 1 + y) % (n : Int)).toNat, ?_, ?_, ?_⟩
    all_goals
      rcases h2 with rfl | rfl
      all_goals omega
  obtain ⟨w, ew, hw⟩ : ∃ w, ixG [u1 - 3, u2 - 49] u3 = some w ∧ w.natAbs ≤ 49 := by
    obtain rfl | rfl : u3 = 0 ∨ u3 = 1 := by omega
    · exact ⟨_, ix0, by omega⟩
    · exact ⟨_, ix1, by omega⟩
  have sz : szG [u1 - 3, u2 - 49] = some [u1 - 3, u2 - 49] := szG_s (by simp)
  simp only [s1_s, s2_s, sP_s, sC_s, sK_s, e3, e4, e5, e6, e7, bind_s, addG_s, subG_s, modG_s (a := (p : Int) + 1 + y) (b := (n : Int)) (by omega), er, sCons_s, sz, ew, o2_s]
  have lp : p < R.length := by rw [hs.len]; exact hp
  have lr : r < R.length := by rw [hs.len]; exact hr
  have gp : R.getD p [] = R[p] := getD_at lp
  have gr : R.getD r [] = R[r] := getD_at lr
  rw [addrow lp lr (hs.row _ (List.getElem_mem _)) (hs.row _ (List.getElem_mem _)) hn hw, bind_s]
  have lz : (List.zipWith (fun a b => a + w * b) R[p] R[r]).length ≤ 3 := by
    rw [List.length_zipWith, hs.row _ (List.getElem_mem lp)]
    omega
  rw [big_ok lz, bind_s]
  refine W_then (P := fun R' => G n 333 R') ?_ fun R2 g2 => ?_
  · by_cases q : ∀ v ∈ List.zipWith (fun a b => a + w * b) R[p] R[r], v.natAbs ≤ 333
    · rw [decide_eq_true q, if_pos rfl, setG_nat lp, bind_s]
      refine W_some ?_
      have := hs.add hp hr pr hw
      rw [gp, gr] at this
      refine this.bd fun x hx v hv => ?_
      rcases List.mem_or_eq_of_mem_set hx with hx | rfl
      · exact hs.all x hx v hv
      · exact q v hv
    · rw [decide_eq_false q, if_neg Bool.false_ne_true]
      exact W_some hs
  have lp : p < R2.length := by rw [g2.len]; exact hp
  have lr : r < R2.length := by rw [g2.len]; exact hr
  have gp : R2.getD p [] = R2[p] := getD_at lp
  have gr : R2.getD r [] = R2[r] := getD_at lr
  simp only [e8, s2_s, sC_s, eqG_s, sK_s, bind_s]
  refine W_then (P := fun (R' : List (List Int) × List Int) => R'.2 = t8 ∧ G n 333 R'.1) ?_ fun ⟨R3, t'⟩ ⟨et, g3⟩ => ?_
  · by_cases q : u4 = 0
    · rw [decide_eq_true q, if_pos rfl]
      simp only [o2_s, ixG_i lp, ixG_i lr, oP2_s, bind_s]
      rw [setG_nat lp, bind_s, setG_nat (by rw [List.length_set]; exact lr), bind_s]
      refine W_some ⟨rfl, ?_⟩
      have := g2.swap hp hr pr
      rw [gp, gr] at this
      refine this.bd fun x hx v hv => ?_
      rcases List.mem_or_eq_of_mem_set hx with hx | rfl
      · rcases List.mem_or_eq_of_mem_set hx with hx | rfl
        · exact g2.all x hx v hv
        · exact g2.all _ (List.getElem_mem _) v hv
      · exact g2.all _ (List.getElem_mem _) v hv
    · rw [decide_eq_false q, if_neg Bool.false_ne_true]
      exact W_some ⟨rfl, g2⟩
  have et : t' = t8 := et
  have g3 : G n 333 R3 := g3
  subst et
  have lp : p < R3.length := by rw [g3.len]; exact hp
  have gp : R3.getD p [] = R3[p] := getD_at lp
  dsimp only
  simp only [e9, s2_s, sC_s, eqG_s, sK_s, bind_s]
  by_cases q : u5 = 0
  · rw [decide_eq_true q, if_pos rfl, ixG_i lp, o1_s, lc_map (h := fun x => 0 - x) (by rw [g3.row _ (List.getElem_mem lp)]; omega) fun _ _ => rfl, bind_s, setG_nat lp, bind_s]
    refine W_some ⟨k9, ?_⟩
    have := g3.neg hp
    rw [gp] at this
    refine this.bd fun x hx v hv => ?_
    rcases List.mem_or_eq_of_mem_set hx with hx | rfl
    · exact g3.all x hx v hv
    · obtain ⟨y, hy, rfl⟩ := List.mem_map.mp hv
      have := g3.all _ (List.getElem_mem lp) y hy
      omega
  · rw [decide_eq_false q, if_neg Bool.false_ne_true]
    exact W_some ⟨k9, g3⟩
theorem pl_bd {C D : Nat} : ∀ {p v : List Int}, (∀ x ∈ p, x.natAbs ≤ C) → (∀ x ∈ v, x.natAbs ≤ D) → ∀ x ∈ pl p v, x.natAbs ≤ C + D
  | [], _, _, _, _, h => by cases h
  | _ :: _, [], _, _, _, h => by cases h
  | a :: p, b :: v, h1, h2, x, hx => by
    have hx : x ∈ (a + b) :: pl p v := hx
    rcases List.mem_cons.mp hx with rfl | hx
    · have q1 := h1 a List.mem_cons_self
      have q2 := h2 b List.mem_cons_self
      omega
    · exact pl_bd (fun x hx => h1 x (List.mem_cons_of_mem _ hx)) (fun x hx => h2 x (List.mem_cons_of_mem _ hx)) x hx
theorem sub_ok {n : Nat} {s h s2 h2 : List (List Int)} (c : Pc n s h) : ∃ S H, m_Picture___sub__ (pic n s h) (pic n s2 h2) = some (pic n S H) ∧ Pc n S H ∧ S.Perm (s.filter fun p => !decide (p ∈ s2 ++ h2)) ∧ H.Perm (h.filter fun p => !decide (p ∈ s2 ++ h2)) := by
  have le := c.srt.le
  have c2 := c.srt.filt (fun p => !decide (p ∈ s2 ++ h2)) (fun p => !decide (p ∈ s2 ++ h2))
  refine ⟨_, _, ?_, c2, (srtT_perm s).filter _, (srtT_perm h).filter _⟩
  unfold m_Picture___sub__
  have e1 : (pic n s h).1 = (n : Int) := rfl
  have e2 : (pic n s2 h2).1 = (n : Int) := rfl
  have e3 : (pic n s2 h2).2.1 = wds s2 h2 := rfl
  have e4 : (pic n s h).2.2.1 = srtT s := rfl
  have e5 : (pic n s h).2.2.2 = srtT h := rfl
  simp only [e1, e2, e3, e4, e5, decide_true, Bool.not_true, bind_s, Bool.false_eq_true, if_false, o2_s, o1_s, dnotin_ok (show (srtT s).length ≤ 16000000 by omega), dnotin_ok (show (srtT h).length ≤ 16000000 by omega), o3_s, pic_ok c2]
theorem sMapT_sub {α : Type} {t : α → List Int → Option (Bool × List Int)} {f : α → List Int → Option (α × List Int)} (hf : ∀ a s, f a s = some (a, s)) (ht : ∀ a s, Ok s → W (t a s) fun r => Ok r.2) : ∀ (l : List α) (s : List Int), Ok s → W (sMapT t f l s) fun r => r.1.Sublist l ∧ Ok r.2
  | [], s, k => W_some ⟨.slnil, k⟩
  | a :: l, s, k => by
    obtain ⟨⟨b, s1⟩, e1, k1⟩ := ht a s k
    obtain ⟨⟨r, s2⟩, e2, h2, k2⟩ := sMapT_sub hf ht l s1 k1
    cases b with
    | true =>
      refine W_eq (d := (a :: r, s2)) ?_ ⟨.cons_cons _ h2, k2⟩
      show sC (t a s) _ = _
      rw [e1, sC_s, if_pos rfl, hf, sC_s, e2]
      rfl
    | false =>
      refine W_eq (d := (r, s2)) ?_ ⟨.cons _ h2, k2⟩
      show sC (t a s) _ = _
      rw [e1, sC_s, if_neg Bool.false_ne_true, e2]
/-! the least coordinates -/
theorem minL_iff {l : List Int} {m : Int} (h : m ∈ l) (hm : ∀ x ∈ l, m ≤ x) : minL l = some m := by
  cases l with
  | nil => cases h
  | cons a l =>
    obtain ⟨h1, h2⟩ := foldl_min l a
    refine congrArg some (Int.le_antisymm (h1 m h) (hm _ h2))
theorem minL_ne {l : List Int} (h : l ≠ []) : ∃ m, minL l = some m ∧ m ∈ l ∧ ∀ x ∈ l, m ≤ x := by
  cases l with
  | nil => exact absurd rfl h
  | cons a l =>
    obtain ⟨h1, h2⟩ := foldl_min l a
    exact ⟨_, rfl, h2, h1⟩
def mn (l : List (List Int)) (k : Nat) : Int := (minL (l.map fun p => p.getD k 0)).getD 0
theorem mn_spec {l : List (List Int)} (h : l ≠ []) (k : Nat) : minL (l.map fun p => p.getD k 0) = some (mn l k) ∧ (∃ p ∈ l, p.getD k 0 = mn l k) ∧ ∀ p ∈ l, mn l k ≤ p.getD k 0 := by
  obtain ⟨m, h1, h2, h3⟩ := minL_ne (l := l.map fun p => p.getD k 0) (by simpa using h)
  have e : mn l k = m := by unfold mn; rw [h1]; rfl
  rw [e]
  obtain ⟨p, hp, e2⟩ := List.mem_map.mp h2
  exact ⟨h1, ⟨p, hp, e2⟩, fun q hq => h3 _ (List.mem_map.mpr ⟨q, hq, rfl⟩)⟩
theorem mn_of {l : List (List Int)} {k : Nat} {m : Int} (h : ∃ p ∈ l, p.getD k 0 = m) (hm : ∀ p ∈ l, m ≤ p.getD k 0) : mn l k = m := by
  obtain ⟨p, hp, e⟩ := h
  unfold mn
  rw [minL_iff (m := m) (List.mem_map.mpr ⟨p, hp, e⟩) fun x hx => by
    obtain ⟨q, hq, rfl⟩ := List.mem_map.mp hx
    exact hm q hq]
  rfl
theorem mn_perm {l m : List (List Int)} (h : l.Perm m) (k : Nat) : mn l k = mn m k := by
  by_cases q : l = []
  · subst q; rw [List.Perm.eq_nil h.symm]
  · have s := mn_spec (l := m) (fun z => q (by subst z; exact List.Perm.eq_nil h)) k
    exact mn_of (by obtain ⟨p, hp, e⟩ := s.2.1; exact ⟨p, h.mem_iff.mpr hp, e⟩) fun p hp => s.2.2 p (h.mem_iff.mp hp)
def bk (n : Nat) (l : List (List Int)) : List Int := (List.range n).map fun k => 0 - mn l k
theorem bk_len {n : Nat} {l : List (List Int)} : (bk n l).length = n := by unfold bk; simp
theorem bk_perm {n : Nat} {l m : List (List Int)} (h : l.Perm m) : bk n l = bk n m := by
  unfold bk
  exact List.map_congr_left fun k _ => by rw [mn_perm h]
theorem least_ok {n : Nat} {s h : List (List Int)} (c : Pc n s h) : ∃ s2 h2, m_Picture_least (pic n s h) = some (pic n s2 h2) ∧ Pc n s2 h2 ∧ s2.Perm (s.map fun p => pl p (bk n (s ++ h))) ∧ h2.Perm (h.map fun p => pl p (bk n (s ++ h))) := by
  have le := c.le
  have n3 : n ≤ 3 := by have := c.two; omega
  have z1 : (srtT s).length = s.length := (srtT_perm s).length_eq
  have z2 : (srtT h).length = h.length := (srtT_perm h).length_eq
  have pm : (srtT s ++ srtT h).Perm (s ++ h) := (srtT_perm s).append (srtT_perm h)
  unfold m_Picture_least
  have cat : catG (pic n s h).2.2.1 (pic n s h).2.2.2 = some (srtT s ++ srtT h) := catG_s (by show (srtT s).length + (srtT h).length ≤ _; omega)
  have d0 : (pic n s h).1 = (n : Int) := rfl
  simp only [o2_s, cat, bind_s, d0]
  by_cases q : s ++ h = []
  · obtain ⟨q1, q2⟩ := List.append_eq_nil_iff.mp q
    subst q1 q2
    rw [decide_eq_true (by rw [pm.length_eq]; rfl), if_pos rfl]
    exact ⟨[], [], rfl, c, .nil, .nil⟩
  · have ne : srtT s ++ srtT h ≠ [] := fun z => q (by rw [z] at pm; exact List.Perm.eq_nil pm.symm)
    rw [decide_eq_false (by intro z; exact ne (List.eq_nil_of_length_eq_zero (by omega))), if_neg Bool.false_ne_true, o1_s, rngG_s (by omega) (by omega), bind_s]
    have ll : ∀ p ∈ srtT s ++ srtT h, p.length = n := fun p hp => by
      rcases List.mem_append.mp (pm.mem_iff.mp hp) with hp | hp
      · exact c.s p hp
      · exact c.h p hp
    have key : oFold (γ := List Int) (fun (k_ : Int) (shift : List Int) => (o1 negG (o1 minL (o1 (oLc yes (fun (place : List Int) => ixG place k_)) (some (srtT s ++ srtT h))))).bind fun val => (appG shift val).bind fun (shift : List Int) => some shift) (rngL 0 (n : Int)) [] = some (bk n (s ++ h)) := by
      refine W_is (W_foldR (fun i r => r = ((List.range i).map fun k => 0 - mn (s ++ h) k)) rfl (fun i r hi hr => ?_) fun r hr => hr)
      subst hr
      have e1 : oLc yes (fun (place : List Int) => ixG place (i : Int)) (srtT s ++ srtT h) = some ((srtT s ++ srtT h).map fun p => p.getD i 0) := lc_map (by rw [pm.length_eq, List.length_append]; omega) fun p hp => by
        have := ll p hp
        rw [ixG_i (by omega)]
        simp [show i < p.length by omega]
      rw [o1_s, e1, o1_s, (mn_spec ne i).1, o1_s, negG_s, bind_s, appG_s (by simp; omega), bind_s, mn_perm pm]
      refine W_some ?_
      rw [List.range_succ, List.map_append]
      simp
    rw [key, bind_s]
    obtain ⟨s2, h2, e, c2, p1, p2⟩ := shifted_perm c (v := bk n (s ++ h)) bk_len
    exact ⟨s2, h2, by rw [e, bind_s], c2, p1, p2⟩
/-! data of any kind -/
theorem neU_same {d : PyData} (h : SeqAt.shaped d = true) (e : PyData.eqv d d = true) : neU d d = some false := by
  unfold neU
  rw [if_pos ⟨h, h⟩, e]
  rfl
theorem eqv_int (i j : Int) : PyData.eqv (.int i) (.int j) = decide (i = j) := by
  show (i == j) = _
  by_cases h : i = j
  · subst h; simp
  · simp [h]
theorem eqv_str (i j : Str) : PyData.eqv (.str i) (.str j) = decide (i = j) := by
  show (i == j) = _
  by_cases h : i = j
  · subst h; simp
  · rw [decide_eq_false h]
    simpa using h
theorem eqv_ints : ∀ l m : List Int, PyData.eqvAll (l.map .int) (m.map .int) = decide (l = m)
  | [], [] => rfl
  | [], _ :: _ => rfl
  | _ :: _, [] => rfl
  | a :: l, b :: m => by
    rw [List.map_cons, List.map_cons, PyData.eqvAll, eqv_int, eqv_ints l m]
    by_cases h1 : a = b <;> by_cases h2 : l = m <;> simp [h1, h2]
theorem lay_ints : ∀ l : List Int, PyData.canLayAll0 (l.map .int) = true
  | [] => rfl
  | a :: l => by rw [List.map_cons, PyData.canLayAll0, lay_ints l]; rfl
theorem dep_ints : ∀ l : List Int, PyData.depthAll (l.map .int) = 0
  | [] => rfl
  | a :: l => by rw [List.map_cons, PyData.depthAll, dep_ints l]; rfl
/-! texts of places, pictures, lines -/
def sv (v : Int) : Str := toString v
theorem str_ok {v : Int} (h : v.natAbs < 10 ^ 70) : strI v = some (sv v) ∧ (sv v).length ≤ 71 := by
  refine ⟨?_, ?_⟩
  · unfold strI
    rw [if_pos]
    · rfl
    · by_cases z : v.natAbs = 0
      · rw [z]; decide
      · have : v.natAbs < 2 ^ 1920 := Nat.lt_of_lt_of_le h (by decide)
        exact (Nat.log2_lt z).mpr this
  · show (Str.ofString (toString v)).length ≤ 71
    rw [PySem.ofString_length]
    exact PySem.int_text_length_le10 (by decide) h
theorem join_len (a : Str) (l : List Str) (B : Nat) (h : ∀ y ∈ l, y.length ≤ B) : (l.map (·.length)).sum ≤ l.length * B := by
  induction l with
  | nil => simp
  | cons y l ih =>
    have h1 := h y List.mem_cons_self
    have h2 := ih fun z hz => h z (List.mem_cons_of_mem _ hz)
    rw [List.map_cons, List.sum_cons, List.length_cons, Nat.succ_mul]
    omega
theorem joinG_ok {a : Str} {l : List Str} {B : Nat} (h : ∀ y ∈ l, y.length ≤ B) (le : l.length * B + l.length * a.length ≤ 16777216) : joinG a l = some (Txt.join a l) := by
  have := join_len a l B h
  exact if_pos (by omega)
theorem glue_len {a : Str} {l : List Str} {B : Nat} (h : ∀ y ∈ l, y.length ≤ B) : (Txt.join a l).length ≤ l.length * B + l.length * a.length := by
  have e : (Txt.join a l).length = (l.map (·.length)).sum + (l.length - 1) * a.length := PySem.size_glued a l
  have := join_len a l B h
  have : (l.length - 1) * a.length ≤ l.length * a.length := Nat.mul_le_mul_right _ (by omega)
  omega
def Sm (p : List Int) : Prop := p.length ≤ 3 ∧ ∀ v ∈ p, v.natAbs < 10 ^ 70
def sp (p : List Int) : Str := ("(" : Str) ++ Txt.join ("," : Str) (p.map sv) ++ (")" : Str)
theorem l1 (s : String) : (Str.ofString s).length = s.length := PySem.ofString_length s
def sps (l : List (List Int)) : List Str := (srtT l).map sp
def shp (n : Int) (s h : List (List Int)) : Str := Txt.join (" " : Str) (([sv n, "seen"] ++ sps s) ++ [("hidden" : Str)] ++ sps h)
theorem sps_perm {l m : List (List Int)} (h : l.Perm m) : sps l = sps m := by
  unfold sps
  rw [srt_uniq h]
theorem shp_perm {n : Int} {s h s2 h2 : List (List Int)} (h1 : s.Perm s2) (h3 : h.Perm h2) : shp n s h = shp n s2 h2 := by
  unfold shp
  rw [sps_perm h1, sps_perm h3]
/-! lines -/
def shl (a b : List Int) : Str := sp a ++ (" by " : Str) ++ sp b
theorem emp (a : Str) : PySem.Str.empty ++ a = a := PySem.Str.empty_append a
structure LN (n : Nat) (a b : List Int) : Prop where
  la : a.length = n
  lb : b.length = n
  ba : ∀ v ∈ a, v.natAbs < 10 ^ 60
  bb : ∀ v ∈ b, v.natAbs < 10 ^ 60
  g : gcdL b = 1
theorem LN.sm {n : Nat} {a b : List Int} (h : LN n a b) (n3 : n ≤ 3) : Sm a ∧ Sm b := ⟨⟨by rw [h.la]; exact n3, fun v hv => Nat.lt_of_lt_of_le (h.ba v hv) (by decide)⟩, ⟨by rw [h.lb]; exact n3, fun v hv => Nat.lt_of_lt_of_le (h.bb v hv) (by decide)⟩⟩
theorem one_mem {l : List Int} {v : Int} (hv : v ∈ l) (h : v = 1 ∨ v = -1) : gcdL l = 1 := by
  have := gcdL_dvd hv
  have e : (gcdL l : Int) ∣ 1 := by
    rcases h with rfl | rfl
    · exact this
    · exact Int.dvd_neg.mp this
  have := Int.natCast_dvd_natCast.mp (show ((gcdL l : Nat) : Int) ∣ ((1 : Nat) : Int) from e)
  exact Nat.dvd_one.mp this
theorem line_ok {t : List Int} (h : Ok t) {n : Nat} (two : n = 2 ∨ n = 3) : W (m_line_ t (n : Int)) fun r => LN n r.1.1 r.1.2 ∧ Ok r.2 := by
  unfold m_line_
  have n3 : n ≤ 3 := by omega
  obtain ⟨x1, t1, e1, k1, a1, b1⟩ := sip_ok h (m := 3) (by decide) (by decide)
  have wd : ∀ x, 0 ≤ x → x < 3 → ∃ w, ixG [(2 : Int), 9, 10 ^ 19] x = some w ∧ 0 < w ∧ w ≤ 10000000000000000000 := fun x h1 h2 => by
    obtain rfl | rfl | rfl : x = 0 ∨ x = 1 ∨ x = 2 := by omega
    all_goals exact ⟨_, rfl, by decide, by decide⟩
  obtain ⟨w, f1, w0, w1⟩ := wd x1 a1 b1
  obtain ⟨x2, t2, e2, k2, a2, b2⟩ := sip_ok k1 (m := (n : Int)) (by omega) (by omega)
  obtain ⟨i, rfl⟩ : ∃ i : Nat, x2 = (i : Int) := ⟨x2.toNat, by omega⟩
  simp only [s2_s, sP_s, sC_s, s1_s, e1, sK_s, f1, bind_s, e2, o1_s]
  rw [rngG_s (n := (n : Int)) (by omega) (by omega)]
  simp only [bind_s]
  refine W_then (W_slcR (Q := fun r : List Int × List Int => (r.1.length = n ∧ ∀ v ∈ r.1, v.natAbs ≤ 10000000000000000000) ∧ Ok r.2) (fun _ g => Ok g) (fun v => v.natAbs ≤ 10000000000000000000) (by omega) k2 (fun j g _ hg => ?_) fun xs g' hl hb hk => ⟨⟨hl, hb⟩, hk⟩) fun ⟨ah, t3⟩ ⟨⟨la, ba⟩, k3⟩ => ?_
  · obtain ⟨x, t, e, k, b⟩ := far_ok hg w0
    simp only [e]
    exact W_some ⟨by show x.natAbs ≤ _; omega, k⟩
  have la : ah.length = n := la
  have ba : ∀ v ∈ ah, v.natAbs ≤ 10000000000000000000 := ba
  have k3 : Ok t3 := k3
  obtain ⟨x4, t4, e4, k4, a4, b4⟩ := sip_ok k3 (m := 2) (by decide) (by decide)
  have hi : i < ah.length := by omega
  have m2 : mulG 2 x4 = some (2 * x4) := mulG_l (by decide)
  obtain ⟨u, eu, u1⟩ : ∃ u, 1 - 2 * x4 = u ∧ (u = 1 ∨ u = -1) := ⟨_, rfl, by omega⟩
  simp only [e4, m2, sC_s, sK_s, s2_s, sP_s, subG_s, eu, bind_s, setG_nat hi]
  have lA : (ah.set i u).length = n := by rw [List.length_set, la]
  have bA : ∀ v ∈ ah.set i u, v.natAbs ≤ 10000000000000000000 := fun v hv => by
    rcases List.mem_or_eq_of_mem_set hv with hv | rfl
    · exact ba v hv
    · omega
  have gA : gcdL (ah.set i u) = 1 := one_mem (List.mem_set hi u) u1
  generalize ah.set i u = A at *
  obtain ⟨x5, t5, e5, k5, a5, b5⟩ := sip_ok k4 (m := 3) (by decide) (by decide)
  obtain ⟨w5, f5, w50, w51⟩ := wd x5 a5 b5
  obtain ⟨x6, t6, e6, k6, b6⟩ := far_ok k5 w50
  have mt : ∀ v, mulG x6 v = some (x6 * v) := fun v => mulG_l (by omega)
  have fm : oLc yes (fun (value : Int) => mulG x6 value) A = some (A.map fun v => x6 * v) := lc_map (by omega) fun v _ => mt v
  obtain ⟨x7, t7, e7, k7, a7, b7⟩ := sip_ok k6 (m := 4) (by decide) (by decide)
  obtain ⟨ap, f7, p0, p1⟩ : ∃ p, ixG [(1 : Int), 7, 210, 30030] x7 = some p ∧ 1 ≤ p ∧ p ≤ 30030 := by
    obtain rfl | rfl | rfl | rfl : x7 = 0 ∨ x7 = 1 ∨ x7 = 2 ∨ x7 = 3 := by omega
    all_goals exact ⟨_, rfl, by decide, by decide⟩
  simp only [e5, f5, sC_s, sK_s, s2_s, sP_s, s1_s, e6, bind_s, o2_s, fm, e7, f7]
  have b38 : ∀ v ∈ A.map (fun v => x6 * v), v.natAbs ≤ 10 ^ 38 := fun v hv => by
    obtain ⟨y, hy, rfl⟩ := List.mem_map.mp hv
    rw [Int.natAbs_mul]
    have := Nat.mul_le_mul (show x6.natAbs ≤ 10000000000000000000 by omega) (bA y hy)
    have : (10000000000000000000 * 10000000000000000000 : Nat) = 10 ^ 38 := by decide
    omega
  refine W_then (W_foldR (γ := List Int × List Int) (fun j r => (r.1.length = n ∧ ∀ v ∈ r.1, v.natAbs ≤ 10 ^ 38 + 30030 * j) ∧ Ok r.2) ⟨⟨by rw [List.length_map, lA], fun v hv => by have := b38 v hv; omega⟩, k7⟩ (fun j ⟨F, t⟩ hj ⟨⟨lF, bF⟩, ht⟩ => ?_) fun r hr => hr) fun ⟨F, t⟩ ⟨⟨lF, bF⟩, ht⟩ => W_some ⟨⟨lF, lA, fun v hv => ?_, fun v hv => Nat.lt_of_le_of_lt (bA v hv) (by decide), gA⟩, ht⟩
  · have lF : F.length = n := lF
    have bF : ∀ v ∈ F, v.natAbs ≤ 10 ^ 38 + 30030 * j := bF
    have ht : Ok t := ht
    obtain ⟨x8, t8, e8, k8, a8, b8⟩ := sip_ok ht (m := 3) (by decide) (by decide)
    by_cases q : (j : Int) = (i : Int)
    · rw [decide_eq_true q]
      simp only [Bool.not_true, Bool.false_eq_true, if_false]
      exact W_some ⟨⟨lF, fun v hv => by have := bF v hv; omega⟩, ht⟩
    · rw [decide_eq_false q]
      have hj2 : j < F.length := by omega
      have mm : mulG ap (x8 - 1) = some (ap * (x8 - 1)) := mulG_l (by omega)
      obtain ⟨u, hu, u1⟩ : ∃ u, ap * (x8 - 1) = u ∧ u.natAbs ≤ 30030 := ⟨_, rfl, by
        rw [Int.natAbs_mul]
        have := Nat.mul_le_mul (show ap.natAbs ≤ 30030 by omega) (show (x8 - 1).natAbs ≤ 1 by omega)
        omega⟩
      simp only [Bool.not_false, if_true, ixG_i hj2, e8, s1_s, s2_s, sP_s, sC_s, sK_s, subG_s, mm, hu, addG_s, bind_s, setG_nat hj2]
      refine W_some ⟨⟨by show (F.set j _).length = n; rw [List.length_set, lF], fun v hv => ?_⟩, k8⟩
      rcases List.mem_or_eq_of_mem_set hv with hv | rfl
      · have := bF v hv; omega
      · have := bF F[j] (List.getElem_mem _)
        have := Int.natAbs_add_le F[j] u
        omega
  · have := bF v hv
    have : 10 ^ 38 + 30030 * n < 10 ^ 60 := by
      have : 30030 * n ≤ 100000 := by omega
      have : (10 : Nat) ^ 38 + 100000 < 10 ^ 60 := by decide
      omega
    omega
section
open L2
/-! k81: the text of a whole number is read back -/
theorem tl_neg (n : Nat) : TL.tl (Str.ofString (toString (Int.negSucc n))) = 45 :: TL.numL (n + 1) := by
  have e : toString (Int.negSucc n) = "-" ++ toString (((n + 1 : Nat)) : Int) := rfl
  rw [e, TL.tl_ofString, String.toList_append, List.map_append, ← TL.tl_ofString (toString (((n + 1 : Nat)) : Int)), TL.tl_num]
  rfl
theorem int_back {i : Int} (h : (TL.tl (Str.ofString (toString i))).length ≤ 640) : intText? (Str.ofString (toString i)) = some i := by
  cases i with
  | ofNat n =>
    have h : (TL.tl (Str.ofString (toString ((n : Nat) : Int)))).length ≤ 640 := h
    rw [TL.tl_num] at h
    exact TL.int_num (by omega)
  | negSucc n =>
    rw [tl_neg] at h
    have := intText_neg (x := Str.ofString (toString (Int.negSucc n))) (cs := TL.numL (n + 1)) (tl_neg n) (TL.numL_digits _) (TL.numL_ne _) (by rw [TL.len_tl, tl_neg]; omega)
    rw [this, TL.numL_val]
    rfl
end
section
open L2
/-! k81: m_integer_of, parts of m_place_of: texts are read back (built over Ya, Mi_k81, k81.txt with `open PySem Mw Mi L2`) -/
theorem dig_tl : (("0123456789" : PySem.Str)).cps.toList = [48, 49, 50, 51, 52, 53, 54, 55, 56, 57] := by decide
theorem not_dig {c : Nat} (h : 48 ≤ c ∧ c ≤ 57) : hasNotS (sgn c) "0123456789" = some false := by
  have e : hasNotS (sgn c) "0123456789" = some (!decide (c ∈ (("0123456789" : PySem.Str)).cps.toList)) := rfl
  rw [e, dig_tl]
  have : c ∈ [48, 49, 50, 51, 52, 53, 54, 55, 56, 57] := by
    simp only [List.mem_cons, List.not_mem_nil, or_false]
    omega
  rw [decide_eq_true this]
  rfl
theorem digs_go : ∀ l : List Nat, (∀ c ∈ l, 48 ≤ c ∧ c ≤ 57) → oLoop (γ := Unit) (ρ := (Option Int)) (fun (sign : PySem.Str) (() : Unit) =>
        (o2 hasNotS (some sign) (some ("0123456789" : PySem.Str))).bind fun b => if b = true then
        (some none).bind fun rv => some (.ret rv)
      else
        some (.go ())) (l.map sgn) () = some (.nx ())
  | [], _ => rfl
  | c :: l, h => by
    have e : (o2 hasNotS (some (sgn c)) (some ("0123456789" : PySem.Str))) = some false := not_dig (h c List.mem_cons_self)
    rw [List.map_cons, oLoop, e]
    exact digs_go l fun c hc => h c (List.mem_cons_of_mem _ hc)
theorem sw_minus {w : PySem.Str} {c : Nat} {l : List Nat} (e : TL.tl w = c :: l) : Txt.startswith w "-" = decide (c = 45) := by
  have ew : w = ⟨(c :: l).toArray⟩ := by rw [← e]; try exact (TL.mk_tl w).symm
  subst ew
  show (decide (0 + 1 ≤ (c :: l).toArray.size) && ((c :: l).toArray.extract 0 (0 + 1) == #[45])) = _
  have e1 : (c :: l).toArray.extract 0 (0 + 1) = #[c] := by simp
  rw [e1]
  by_cases q : c = 45
  · subst q; rfl
  · simp [q]
theorem cut_one {w : PySem.Str} {c : Nat} {l : List Nat} (e : TL.tl w = c :: l) : TL.tl (cutS w (some 1) none) = l := by
  have hl : w.length = l.length + 1 := by rw [TL.len_tl, e]; rfl
  have s1 : HT.sIx w.length 0 (some 1) = 1 := by rw [hl]; unfold HT.sIx; simp
  have s2 : HT.sIx w.length w.length none = w.length := rfl
  show (((TL.tl w).drop (HT.sIx w.length 0 (some 1))).take (HT.sIx w.length w.length none - HT.sIx w.length 0 (some 1))) = l
  rw [s1, s2, e, hl]
  simp
theorem at0 {w : PySem.Str} {c : Nat} {l : List Nat} (e : TL.tl w = c :: l) (h : w.length ≤ sizeLine) : ixS w 0 = some (sgn c) := by
  unfold ixS
  rw [if_pos h, show w.cps.toList = c :: l from e, show (0 : Int) = ((0 : Nat) : Int) from rfl, L2.atI_nat (xs := c :: l) (j := 0) (v := c) rfl]
  rfl
theorem head_num : ∀ (n : Nat) {c : Nat} {l : List Nat}, TL.numL n = c :: l → c = 48 → n = 0 := fun n => by
  induction n using Nat.strongRecOn with
  | ind n ih =>
    intro c l e q
    by_cases h : n < 10
    · rw [TL.numL_lt h] at e
      injection e with e1 e2
      omega
    · rw [TL.numL_step (by omega)] at e
      cases g : TL.numL (n / 10) with
      | nil => exact absurd g (TL.numL_ne _)
      | cons d r =>
        rw [g] at e
        injection e with e1 e2
        have := ih (n / 10) (by omega) g (by omega)
        omega
theorem num_dig {n c : Nat} (h : c ∈ TL.numL n) : 48 ≤ c ∧ c ≤ 57 := TL.numL_digits n c h
theorem not_empty {w : PySem.Str} {c : Nat} {l : List Nat} (e : TL.tl w = c :: l) : decide (w = ("" : PySem.Str)) = false := decide_eq_false fun h => by
  rw [h] at e
  cases e
def restI (word digits : PySem.Str) : Option (Option Int) :=
  (oOr (some (decide (digits = ("" : PySem.Str)))) (o2 gtG (o1 lenS (some digits)) (some 60))).bind fun b => if b = true then
    (some none).bind fun rv => some rv
  else
    (Option.map signs (some digits)).bind fun (l_ : List PySem.Str) => (oLoop (γ := Unit) (ρ := (Option Int)) (fun (sign : PySem.Str) (() : Unit) =>
        (o2 hasNotS (some sign) (some ("0123456789" : PySem.Str))).bind fun b => if b = true then
        (some none).bind fun rv => some (.ret rv)
      else
        some (.go ())) l_ ()).bind fun o_ => match o_ with
    | .ret r_ => some r_
    | .nx (() : Unit) =>
      (oAnd (o2 eqG (o2 ixS (some digits) (some 0)) (some ("0" : PySem.Str))) (some (!decide (word = ("0" : PySem.Str))))).bind fun b => if b = true then
      (some none).bind fun rv => some rv
    else
      (Option.map some (o1 intS (some word))).bind fun rv => some rv
theorem rest_ok {w d : PySem.Str} {n : Nat} {i : Int} (hd : TL.tl d = TL.numL n) (hl : (TL.numL n).length ≤ 60) (hw : n = 0 → w = ("0" : PySem.Str)) (hi : intS w = some i) : restI w d = some (some i) := by
  cases g : TL.numL n with
  | nil => exact absurd g (TL.numL_ne _)
  | cons c l =>
    rw [g] at hd
    have len : d.length = (TL.numL n).length := by rw [TL.len_tl, hd, g]
    have z := sizeLine_eq
    have e1 : oOr (some (decide (d = ("" : PySem.Str)))) (o2 gtG (o1 lenS (some d)) (some 60)) = some false := by
      rw [not_empty hd]
      show (lenS d).bind _ = _
      unfold lenS
      rw [if_pos (by omega)]
      show some (decide ((d.length : Int) > 60)) = some false
      rw [decide_eq_false (by omega)]
    have e2 := digs_go (c :: l) (fun x hx => num_dig (n := n) (by rw [g]; exact hx))
    have e3 : signs d = (c :: l).map sgn := by
      show (TL.tl d).map sgn = _
      rw [hd]
    unfold restI
    rw [e1]
    show (oLoop _ (signs d) ()).bind _ = _
    rw [e3, e2]
    show (oAnd (o2 eqG (ixS d 0) (some ("0" : PySem.Str))) (some (!decide (w = ("0" : PySem.Str))))).bind _ = _
    rw [at0 hd (by omega)]
    have e4 : oAnd (o2 eqG (some (sgn c)) (some ("0" : PySem.Str))) (some (!decide (w = ("0" : PySem.Str)))) = some false := by
      by_cases q : c = 48
      · have := hw (head_num n g q)
        subst this
        subst q
        decide
      · have : sgn c ≠ ("0" : PySem.Str) := fun h => q (by have := congrArg TL.tl h; injection this)
        show (some (decide (sgn c = ("0" : PySem.Str)))).bind _ = _
        rw [decide_eq_false this]
        rfl
    rw [e4]
    show (Option.map some (intS w)).bind _ = _
    rw [hi]
    rfl
theorem digs_len {n : Nat} (h : n < 10 ^ 60) : (TL.numL n).length ≤ 60 := TL.numL_len (by decide) h
theorem integer_back {i : Int} (h : i.natAbs < 10 ^ 60) : m_integer_of (Str.ofString (toString i)) = some (some i) := by
  have z := sizeLine_eq
  have go : m_integer_of (Str.ofString (toString i)) = ((o2 (fun a b => some (Txt.startswith a b)) (some (Str.ofString (toString i))) (some ("-" : PySem.Str))).bind fun b => if b = true then
      (oCutS (some (Str.ofString (toString i))) (some (some 1)) (some none)).bind fun (digits : PySem.Str) => some (digits)
    else some (Str.ofString (toString i))).bind fun d => restI (Str.ofString (toString i)) d := rfl
  rw [go]
  cases i with
  | ofNat n =>
    have h : n < 10 ^ 60 := h
    have dl := digs_len h
    have e : TL.tl (Str.ofString (toString (Int.ofNat n))) = TL.numL n := TL.tl_num n
    have hl : (Str.ofString (toString (Int.ofNat n))).length ≤ 60 := by rw [TL.len_tl, e]; exact dl
    have hI : intS (Str.ofString (toString (Int.ofNat n))) = some (Int.ofNat n) := by
      unfold intS
      rw [if_pos (by omega)]
      exact int_back (by rw [e]; omega)
    cases g : TL.numL n with
    | nil => exact absurd g (TL.numL_ne _)
    | cons c l =>
      have hc : 48 ≤ c ∧ c ≤ 57 := num_dig (n := n) (by rw [g]; exact List.mem_cons_self)
      have s : Txt.startswith (Str.ofString (toString (Int.ofNat n))) "-" = false := by
        rw [sw_minus (e.trans g)]
        exact decide_eq_false (by omega)
      show ((some (Txt.startswith (Str.ofString (toString (Int.ofNat n))) "-")).bind _).bind _ = _
      rw [s]
      show restI _ _ = _
      exact rest_ok e dl (fun q => by subst q; rfl) hI
  | negSucc n =>
    have h : n + 1 < 10 ^ 60 := h
    have dl := digs_len h
    have e := tl_neg n
    have hl : (Str.ofString (toString (Int.negSucc n))).length ≤ 61 := by rw [TL.len_tl, e]; simp; exact dl
    have hI : intS (Str.ofString (toString (Int.negSucc n))) = some (Int.negSucc n) := by
      unfold intS
      rw [if_pos (by omega)]
      exact int_back (by rw [e]; simp; omega)
    have s : Txt.startswith (Str.ofString (toString (Int.negSucc n))) "-" = true := by rw [sw_minus e]; rfl
    show ((some (Txt.startswith (Str.ofString (toString (Int.negSucc n))) "-")).bind _).bind _ = _
    rw [s]
    have c1 : oCutS (some (Str.ofString (toString (Int.negSucc n)))) (some (some 1)) (some none) = some (cutS (Str.ofString (toString (Int.negSucc n))) (some 1) none) := by
      show cutG _ _ _ = _
      unfold cutG
      rw [if_pos (by omega)]
    show ((oCutS (some (Str.ofString (toString (Int.negSucc n)))) (some (some 1)) (some none)).bind _).bind _ = _
    rw [c1]
    show restI _ _ = _
    exact rest_ok (n := n + 1) (cut_one e) dl (fun q => absurd q (by omega)) hI
/-! a place's text: its middle, its last sign, its parts -/
theorem mid_cut {w m : PySem.Str} (e : TL.tl w = 40 :: (TL.tl m ++ [41])) : cutS w (some 1) (some (-1)) = m := TL.ext_tl (by
  have hl : w.length = (TL.tl m).length + 2 := by rw [TL.len_tl, e]; simp
  have s1 : HT.sIx w.length 0 (some 1) = 1 := by rw [hl]; unfold HT.sIx; simp
  have s2 : HT.sIx w.length w.length (some (-1)) = (TL.tl m).length + 1 := by
    rw [hl]
    unfold HT.sIx
    simp only []
    rw [if_pos (by omega)]
    omega
  show (((TL.tl w).drop (HT.sIx w.length 0 (some 1))).take (HT.sIx w.length w.length (some (-1)) - HT.sIx w.length 0 (some 1))) = TL.tl m
  rw [s1, s2, e]
  simp)
theorem at_end {w : PySem.Str} {l : List Nat} {c : Nat} (e : TL.tl w = l ++ [c]) (h : w.length ≤ sizeLine) : ixS w (-1) = some (sgn c) := by
  unfold ixS
  rw [if_pos h, show w.cps.toList = l ++ [c] from e, L2.atI_last]
  rfl
theorem comma_tl : TL.tl (("," : PySem.Str)) = [44] := by decide
theorem parts_back {p : List Int} (h : p ≠ []) : Txt.split (Txt.join "," (p.map fun i => Str.ofString (toString i))) "," = p.map fun i => Str.ofString (toString i) :=
  TL.split_join comma_tl (by decide +kernel) (by simpa using h) fun q hq => by
    obtain ⟨i, _, rfl⟩ := List.mem_map.mp hq
    exact PyProof.Rows.int_text_free' 44 ⟨by decide, by decide⟩ i
theorem ints_back : ∀ {p : List Int}, (∀ i ∈ p, i.natAbs < 10 ^ 60) → oMap yes (fun (part : PySem.Str) => m_integer_of part) (p.map fun i => Str.ofString (toString i)) = some (p.map some)
  | [], _ => rfl
  | i :: p, h => by
    have e1 := integer_back (h i List.mem_cons_self)
    have e2 := ints_back (p := p) fun j hj => h j (List.mem_cons_of_mem _ hj)
    rw [List.map_cons, oMap]
    show ((m_integer_of (Str.ofString (toString i))).bind fun r => (oMap yes (fun (part : PySem.Str) => m_integer_of part) (p.map fun i => Str.ofString (toString i))).bind fun rs => some (r :: rs)) = _
    rw [e1, e2]
    rfl
theorem allO_some {α : Type} : ∀ l : List α, allO (l.map some) = some l
  | [] => rfl
  | a :: l => by
    rw [List.map_cons, allO, allO_some l]
    rfl
theorem place_back {p : List Int} (h2 : p.length = 2 ∨ p.length = 3) (h : ∀ i ∈ p, i.natAbs < 10 ^ 60) {w : PySem.Str}
    (e : TL.tl w = 40 :: (TL.tl (Txt.join "," (p.map fun i => Str.ofString (toString i))) ++ [41])) (hz : w.length + 2 ≤ sizeLine) : m_place_of w = some (some p) := by
  have hne : p ≠ [] := fun q => by subst q; rcases h2 with q | q <;> cases q
  have hl : w.length = (TL.tl (Txt.join "," (p.map fun i => Str.ofString (toString i)))).length + 2 := by rw [TL.len_tl, e]; simp
  have a0 : ixS w 0 = some (sgn 40) := at0 e (by omega)
  have a1 : ixS w (-1) = some (sgn 41) := at_end (l := 40 :: TL.tl (Txt.join "," (p.map fun i => Str.ofString (toString i)))) (by rw [e]; simp) (by omega)
  have c1 : (oOr (o2 ltG (o1 lenS (some w)) (some 2)) (oOr (o2 neG (o2 ixS (some w) (some 0)) (some ("(" : PySem.Str))) (o2 neG (o2 ixS (some w) (some (-1))) (some (")" : PySem.Str))))) = some false := by
    show (((lenS w).bind _).bind _) = _
    unfold lenS
    rw [if_pos (by omega)]
    show (some (decide ((w.length : Int) < 2))).bind _ = _
    rw [decide_eq_false (by omega)]
    show oOr (o2 neG (ixS w 0) (some ("(" : PySem.Str))) (o2 neG (ixS w (-1)) (some (")" : PySem.Str))) = _
    rw [a0, a1]
    decide
  have c2 : o2 splitG (oCutS (some w) (some (some 1)) (some (some (-1)))) (some ("," : PySem.Str)) = some (p.map fun i => Str.ofString (toString i)) := by
    show (cutG w (some 1) (some (-1))).bind _ = _
    unfold cutG
    rw [if_pos (by omega), mid_cut e]
    show splitG _ _ = _
    unfold splitG
    rw [if_pos ⟨by decide, by rw [TL.len_tl]; omega⟩, parts_back hne]
  have c3 : o1 (oLc yes (fun (part : PySem.Str) => (m_integer_of part))) (some (p.map fun i => Str.ofString (toString i))) = some (p.map some) := by
    show oLc yes _ _ = _
    unfold oLc
    rw [if_pos (by rw [List.length_map]; omega)]
    exact ints_back h
  unfold m_place_of
  rw [c1]
  show ((o1 (oLc yes (fun (part : PySem.Str) => (m_integer_of part))) (o2 splitG (oCutS (some w) (some (some 1)) (some (some (-1)))) (some ("," : PySem.Str)))).bind _) = _
  rw [c2, c3]
  have c4 : (oOr (o2 notInG (some ((p.map some).length : Int)) (some [2, 3])) (o2 inDG (some none) (some (p.map some)))) = some false := by
    match p, h2 with
    | [a, b], _ => rfl
    | [a, b, c], _ => rfl
  show ((oOr (o2 notInG (some ((p.map some).length : Int)) (some [2, 3])) (o2 inDG (some none) (some (p.map some)))).bind _) = _
  rw [c4]
  show ((Option.map some (allO (p.map some))).bind _) = _
  rw [allO_some]
  rfl
theorem sp_tl (p : List Int) : TL.tl (sp p) = 40 :: (TL.tl (Txt.join "," (p.map fun i => Str.ofString (toString i))) ++ [41]) := by
  unfold sp
  rw [TL.tl_append, TL.tl_append]
  rfl
theorem place_free {p : List Int} : 32 ∉ TL.tl (sp p) := by
  rw [sp_tl, TL.join_eq, TL.tl_join, comma_tl]
  have key : ∀ l : List (List Nat), (∀ q ∈ l, 32 ∉ q) → 32 ∉ TL.joinL [44] l := by
    intro l
    induction l with
    | nil => intro _ hm; cases hm
    | cons a l ih =>
      intro h hm
      cases l with
      | nil => exact h a List.mem_cons_self hm
      | cons b r =>
        have hm : 32 ∈ a ++ ([44] ++ TL.joinL [44] (b :: r)) := by simpa [TL.joinL] using hm
        rcases List.mem_append.mp hm with q | q
        · exact h a List.mem_cons_self q
        · rcases List.mem_append.mp q with q | q
          · simp at q
          · exact ih (fun x hx => h x (List.mem_cons_of_mem _ hx)) q
  intro hm
  rcases List.mem_cons.mp hm with q | hm
  · cases q
  · rcases List.mem_append.mp hm with q | q
    · refine key _ (fun x hx => ?_) q
      obtain ⟨y, hy, rfl⟩ := List.mem_map.mp hx
      obtain ⟨i, _, rfl⟩ := List.mem_map.mp hy
      exact PyProof.Rows.int_text_free' 32 ⟨by decide, by decide⟩ i
    · simp at q
end
/-! k81: texts of places and pictures (the program's own writers) -/
theorem show_ok {p : List Int} (h : Sm p) : m_show_place p = some (sp p) ∧ (sp p).length ≤ 300 := by
  obtain ⟨h1, h2⟩ := h
  have e1 : oLc yes (fun (value : Int) => strI value) p = some (p.map sv) := lc_map (by omega) fun v hv => (str_ok (h2 v hv)).1
  have bl : ∀ y ∈ p.map sv, y.length ≤ 71 := fun y hy => by
    obtain ⟨v, hv, rfl⟩ := List.mem_map.mp hy
    exact (str_ok (h2 v hv)).2
  have c1 : ("," : Str).length = 1 := l1 ","
  have c2 : ("(" : Str).length = 1 := l1 "("
  have c3 : (")" : Str).length = 1 := l1 ")"
  have ll : (p.map sv).length ≤ 3 := by rw [List.length_map]; exact h1
  have m1 := Nat.mul_le_mul_right 71 ll
  have m2 := Nat.mul_le_mul_right ("," : Str).length ll
  have j := joinG_ok (a := ",") bl (by omega)
  have g := glue_len (a := ",") bl
  have s1 : catS "(" (Txt.join "," (p.map sv)) = some ("(" ++ Txt.join "," (p.map sv)) := if_pos (by rw [c2]; show _ ≤ 2 ^ 24; omega)
  have le1 : (("(" : Str) ++ Txt.join "," (p.map sv)).length ≤ 299 := by rw [PySem.Str.length_append]; omega
  have s2 : catS ("(" ++ Txt.join "," (p.map sv)) ")" = some (sp p) := if_pos (by rw [c3]; show _ ≤ 2 ^ 24; omega)
  have le2 : (sp p).length ≤ 300 := by
    unfold sp
    rw [PySem.Str.length_append]
    omega
  refine ⟨?_, le2⟩
  unfold m_show_place
  simp only [o1_s, e1, o2_s, j, s1, s2, bind_s]
theorem sps_ok {l : List (List Int)} (h : ∀ p ∈ l, Sm p) (le : l.length ≤ 2000) : oLc yes (fun (p : List Int) => m_show_place p) (srtT l) = some (sps l) ∧ (sps l).length = l.length ∧ ∀ y ∈ sps l, y.length ≤ 300 := by
  have z : (srtT l).length = l.length := (srtT_perm l).length_eq
  have g : ∀ p ∈ srtT l, Sm p := fun p hp => h p ((srtT_perm l).mem_iff.mp hp)
  refine ⟨lc_map (by omega) fun p hp => (show_ok (g p hp)).1, by unfold sps; rw [List.length_map, z], fun y hy => ?_⟩
  obtain ⟨p, hp, rfl⟩ := List.mem_map.mp hy
  exact (show_ok (g p hp)).2
/-- the words of a picture's text -/
def wl (n : Int) (s h : List (List Int)) : List Str := ([sv n, "seen"] ++ sps s) ++ [("hidden" : Str)] ++ sps h
theorem wl_ok {n : Nat} (n3 : n ≤ 3) {s h : List (List Int)} (hs : ∀ p ∈ s, Sm p) (hh : ∀ p ∈ h, Sm p) (les : s.length ≤ 2000) (leh : h.length ≤ 2000) : (∀ y ∈ wl n s h, y.length ≤ 300) ∧ (wl n s h).length = s.length + h.length + 3 ∧ joinG " " (wl n s h) = some (shp n s h) ∧ (shp n s h).length ≤ 2000000 := by
  obtain ⟨a2, a3, a4⟩ := sps_ok hs (by omega)
  obtain ⟨b2, b3, b4⟩ := sps_ok hh (by omega)
  obtain ⟨e1, e2⟩ := str_ok (v := (n : Int)) (Nat.lt_of_le_of_lt (show (n : Int).natAbs ≤ 3 by omega) (by decide))
  have k1 : ("seen" : Str).length = 4 := l1 "seen"
  have k2 : ("hidden" : Str).length = 6 := l1 "hidden"
  have k3 : (" " : Str).length = 1 := l1 " "
  have bl : ∀ y ∈ wl n s h, y.length ≤ 300 := fun y hy => by
    unfold wl at hy
    simp only [List.mem_append, List.mem_cons, List.not_mem_nil, or_false] at hy
    rcases hy with (((rfl | rfl) | hy) | rfl) | hy
    · omega
    · omega
    · exact a4 y hy
    · omega
    · exact b4 y hy
  have ll : (wl n s h).length = s.length + h.length + 3 := by unfold wl; simp; omega
  have ll2 : (wl n s h).length ≤ 4003 := by omega
  have m1 := Nat.mul_le_mul_right 300 ll2
  have m2 := Nat.mul_le_mul_right (" " : Str).length ll2
  refine ⟨bl, ll, joinG_ok bl (by omega), ?_⟩
  have := glue_len (a := (" " : Str)) bl
  show (Txt.join " " (wl n s h)).length ≤ _
  omega
theorem shp_ok {n : Nat} (n3 : n ≤ 3) {s h : List (List Int)} (hs : ∀ p ∈ s, Sm p) (hh : ∀ p ∈ h, Sm p) (les : s.length ≤ 2000) (leh : h.length ≤ 2000) : m_show_picture (pic n s h) = some (shp n s h) := by
  obtain ⟨a2, a3, a4⟩ := sps_ok hs (by omega)
  obtain ⟨b2, b3, b4⟩ := sps_ok hh (by omega)
  obtain ⟨e1, e2⟩ := str_ok (v := (n : Int)) (Nat.lt_of_le_of_lt (show (n : Int).natAbs ≤ 3 by omega) (by decide))
  have sz : szG [sv n, ("seen" : Str)] = some [sv n, "seen"] := szG_s (by simp)
  have c1 : extG [sv n, ("seen" : Str)] (sps s) = some ([sv n, "seen"] ++ sps s) := catG_s (by simp; omega)
  have c2 : appG ([sv n, ("seen" : Str)] ++ sps s) "hidden" = some ([sv n, "seen"] ++ sps s ++ [("hidden" : Str)]) := appG_s (by simp; omega)
  have c3 : extG ([sv n, ("seen" : Str)] ++ sps s ++ [("hidden" : Str)]) (sps h) = some ([sv n, "seen"] ++ sps s ++ [("hidden" : Str)] ++ sps h) := catG_s (by simp; omega)
  have j : joinG " " ([sv n, ("seen" : Str)] ++ sps s ++ [("hidden" : Str)] ++ sps h) = some (shp n s h) := (wl_ok n3 hs hh les leh).2.2.1
  unfold m_show_picture
  have d1 : m_Picture_size (pic n s h) = some (n : Int) := rfl
  have d2 : m_Picture_seen (pic n s h) = some (srtT s) := rfl
  have d3 : m_Picture_hidden (pic n s h) = some (srtT h) := rfl
  simp only [d1, d2, d3, o1_s, e1, oCons_s, sz, a2, b2, bind_s, c1, c2, c3, o2_s, j]
/-! k81: a line's text -/
theorem shl_ok {a b : List Int} (ha : Sm a) (hb : Sm b) : m_show_line (a, b) = some (shl a b) ∧ (shl a b).length ≤ 604 := by
  obtain ⟨e2, e3⟩ := show_ok ha
  obtain ⟨f2, f3⟩ := show_ok hb
  have k1 : (" by " : Str).length = 4 := l1 " by "
  have le : (sp a ++ (" by " : Str)).length ≤ 304 := by rw [PySem.Str.length_append]; omega
  have le2 : (shl a b).length ≤ 604 := by unfold shl; rw [PySem.Str.length_append]; omega
  refine ⟨?_, le2⟩
  unfold m_show_line
  have d1 : m_Line_start (a, b) = some a := rfl
  have d2 : m_Line_step (a, b) = some b := rfl
  have g1 : fmtS (sp a) = some (sp a) := if_pos (by show _ ≤ 2 ^ 24; omega)
  have g2 : fmtS (sp b) = some (sp b) := if_pos (by show _ ≤ 2 ^ 24; omega)
  have h1 : cat2 PySem.Str.empty (sp a) = some (sp a) := by
    unfold cat2
    rw [emp, if_pos (by show _ ≤ 2 ^ 24; omega)]
  have h2 : cat2 (sp a) " by " = some (sp a ++ " by ") := if_pos (by show _ ≤ 2 ^ 24; omega)
  have h3 : cat2 (sp a ++ " by ") (sp b) = some (shl a b) := if_pos (by rw [PySem.Str.length_append]; show _ ≤ 2 ^ 24; omega)
  simp only [d1, d2, o1_s, e2, f2, g1, g2, foldS, bind_s, h1, h2, h3]
theorem mkL_ok {n : Nat} (two : n = 2 ∨ n = 3) {a b : List Int} (la : a.length = n) (lb : b.length = n) (g : gcdL b = 1) : (mkX finO2 (m_Line___init__ (none, none) a b)) = some (.ok (a, b)) := by
  unfold m_Line___init__
  have e1 : notInG (a.length : Int) [2, 3] = some false := by
    rw [la]
    rcases two with rfl | rfl <;> rfl
  simp only [o2_s, e1, bind_s, Bool.false_eq_true, if_false]
  rw [decide_eq_true (show (b.length : Int) = a.length by rw [la, lb])]
  simp only [Bool.not_true, Bool.false_eq_true, if_false, div_ok, g, o2_s, neG_s]
  rfl
/-! k81: the text of a picture is read back -/
theorem drop1 {α : Type} {A a : List α} {x : α} {i : Nat} (h : A.drop i = x :: a) : A.drop (i + 1) = a := by
  have := congrArg (List.drop 1) h
  rw [List.drop_drop] at this
  exact this
theorem getD_drop {A a : List Int} {x : Int} {i : Nat} (h : A.drop i = x :: a) : A.getD i 0 = x := by
  have := congrArg (fun l => l[0]?) h
  rw [List.getElem?_drop] at this
  rw [List.getD_eq_getElem?_getD, show A[i]? = some x from this]
  rfl
theorem lexAt_lex {A B : List Int} : ∀ (a b : List Int) (i : Nat), A.drop i = a → B.drop i = b → i ≤ A.length → i ≤ B.length → Ob.lexAt (fun j => decide (A.getD j 0 = B.getD j 0)) (fun j => decide (B.getD j 0 ≤ A.getD j 0)) (decide (B.length ≤ A.length)) i (min a.length b.length) = !lexL a b
  | [], [], i, ha, hb, h1, h2 => by
    have e1 : A.length - i = 0 := by rw [← List.length_drop, ha]; rfl
    have e2 : B.length - i = 0 := by rw [← List.length_drop, hb]; rfl
    show decide (B.length ≤ A.length) = true
    exact decide_eq_true (by omega)
  | [], y :: b, i, ha, hb, h1, h2 => by
    have e1 : A.length - i = 0 := by rw [← List.length_drop, ha]; rfl
    have e2 : B.length - i = b.length + 1 := by rw [← List.length_drop, hb]; rfl
    show Ob.lexAt _ _ _ i (min 0 (b.length + 1)) = false
    rw [Nat.zero_min]
    show decide (B.length ≤ A.length) = false
    exact decide_eq_false (by omega)
  | x :: a, [], i, ha, hb, h1, h2 => by
    have e1 : A.length - i = a.length + 1 := by rw [← List.length_drop, ha]; rfl
    have e2 : B.length - i = 0 := by rw [← List.length_drop, hb]; rfl
    show Ob.lexAt _ _ _ i (min (a.length + 1) 0) = true
    rw [Nat.min_zero]
    show decide (B.length ≤ A.length) = true
    exact decide_eq_true (by omega)
  | x :: a, y :: b, i, ha, hb, h1, h2 => by
    have e1 : A.length - i = a.length + 1 := by rw [← List.length_drop, ha]; rfl
    have e2 : B.length - i = b.length + 1 := by rw [← List.length_drop, hb]; rfl
    have ih := lexAt_lex a b (i + 1) (drop1 ha) (drop1 hb) (by omega) (by omega)
    rw [show min (x :: a).length (y :: b).length = min a.length b.length + 1 by simp only [List.length_cons]; omega, Ob.lexAt_succ, ih]
    rw [getD_drop ha, getD_drop hb, show lexL (x :: a) (y :: b) = (if x = y then lexL a b else decide (x < y)) by rw [lexL]]
    by_cases q : x = y
    · rw [if_pos (decide_eq_true q), if_pos q]
    · rw [if_neg (by rw [decide_eq_false q]; exact Bool.false_ne_true), if_neg q]
      by_cases r : x < y
      · rw [decide_eq_true r, decide_eq_false (by omega)]; rfl
      · rw [decide_eq_false r, decide_eq_true (by omega)]; rfl
theorem geL_lex (a b : List Int) : geL a b = !lexL a b := lexAt_lex a b 0 rfl rfl (Nat.zero_le _) (Nat.zero_le _)
theorem lex_next {l : List (List Int)} (nd : l.Nodup) {k : Nat} (h : k + 1 < (srtT l).length) : lexL (srtT l)[k] (srtT l)[k + 1] = true := by
  have s := List.pairwise_iff_getElem.mp (srtT_srtd l) k (k + 1) (by omega) h (by omega)
  have n := List.pairwise_iff_getElem.mp ((srtT_perm l).nodup_iff.mpr nd) k (k + 1) (by omega) h (by omega)
  cases q : lexL (srtT l)[k] (srtT l)[k + 1] with
  | true => rfl
  | false => exact absurd (lexL_eq q s) n
theorem ascend_ok {n : Nat} {ps : List (List Int)} (hl : ∀ p ∈ ps, p.length = n) (hs : ∀ k (h : k + 1 < ps.length), lexL ps[k] ps[k + 1] = true) (le : ps.length ≤ 16000000) : m_ascend (ps.map some) (n : Int) = some true := by
  unfold m_ascend
  rw [List.length_map, o1_s, rngG_s (by omega) (by omega), bind_s]
  rw [loop_unit fun a ha => ?_]
  · rfl
  · obtain ⟨a0, a1⟩ := rngL_mem ha
    obtain ⟨k, rfl⟩ : ∃ k : Nat, a = (k : Int) := ⟨a.toNat, by omega⟩
    have hk : k < ps.length := by omega
    have e1 : ixG (ps.map some) (k : Int) = some (some ps[k]) := by rw [ixG_i (by simpa using hk)]; simp
    simp only [o2_s, e1, Option.map_some, Option.isNone_some, bind_s, o1_s, lenG_s, neG_s, oOr_f]
    rw [decide_eq_true (show (ps[k].length : Int) = n by rw [hl _ (List.getElem_mem _)])]
    simp only [Bool.not_true, Bool.false_eq_true, if_false]
    cases k with
    | zero => rfl
    | succ j =>
      have e2 : ixG (ps.map some) (((j + 1 : Nat) : Int) - 1) = some (some ps[j]) := by
        rw [show ((j + 1 : Nat) : Int) - 1 = (j : Int) by omega, ixG_i (by simp; omega)]; simp
      rw [decide_eq_true (show (0 : Int) < ((j + 1 : Nat) : Int) by omega), oAnd_t, e2, bind_s, o2_s, geL_lex, hs j hk]
      rfl
/-! lists of texts -/
theorem omap_app {α β : Type} {t : α → Option Bool} {f : α → Option β} : ∀ (l m : List α) {a b : List β}, oMap t f l = some a → oMap t f m = some b → oMap t f (l ++ m) = some (a ++ b)
  | [], m, a, b, h1, h2 => by
    cases h1
    exact h2
  | x :: l, m, a, b, h1, h2 => by
    rw [List.cons_append]
    unfold oMap at h1 ⊢
    cases e : t x with
    | none => rw [e] at h1; cases h1
    | some c =>
      rw [e] at h1
      cases c with
      | false => exact omap_app l m h1 h2
      | true =>
        change ((f x).bind fun r => (oMap t f l).bind fun rs => some (r :: rs)) = some a at h1
        change ((f x).bind fun r => (oMap t f (l ++ m)).bind fun rs => some (r :: rs)) = _
        cases e2 : f x with
        | none => rw [e2] at h1; cases h1
        | some r =>
          rw [e2] at h1
          cases e3 : oMap t f l with
          | none => rw [e3] at h1; cases h1
          | some rs =>
            rw [e3] at h1
            rw [omap_app l m e3 h2]
            cases h1
            rfl
theorem omap_back {α β γ : Type} {t : β → Option Bool} {f : β → Option γ} {g : α → β} {h : α → γ} : ∀ {l : List α}, (∀ a ∈ l, t (g a) = some true ∧ f (g a) = some (h a)) → oMap t f (l.map g) = some (l.map h)
  | [], _ => rfl
  | a :: l, q => by
    have e1 := q a List.mem_cons_self
    have e2 := omap_back (t := t) (f := f) (g := g) (h := h) (l := l) fun j hj => q j (List.mem_cons_of_mem _ hj)
    rw [List.map_cons, oMap, e1.1]
    show ((f (g a)).bind fun r => (oMap t f (l.map g)).bind fun rs => some (r :: rs)) = _
    rw [e1.2, e2]
    rfl
theorem lc_back {α β γ : Type} {f : β → Option γ} {g : α → β} {h : α → γ} {l : List α} (le : l.length ≤ 16000000) (q : ∀ a ∈ l, f (g a) = some (h a)) : oLc yes f (l.map g) = some (l.map h) := by
  unfold oLc
  rw [if_pos (by rw [List.length_map]; exact le)]
  exact omap_back fun a ha => ⟨rfl, q a ha⟩
theorem cnt_cons (x : Str) (l : List Str) (k : Str) : cntT (x :: l) k = (if x = k then 1 else 0) + cntT l k := by
  have e : PySem.Spec.same (.str x) (.str k) = decide (x = k) := by
    show (x == k) = _
    by_cases h : x = k
    · subst h; simp
    · rw [decide_eq_false h]; simpa using h
  show (if PySem.Spec.same (.str x) (.str k) then (1 : Int) else 0) + cntT l k = _
  rw [e]
  by_cases h : x = k <;> simp [h]
theorem cnt_app : ∀ (l m : List Str) (k : Str), cntT (l ++ m) k = cntT l k + cntT m k
  | [], m, k => by rw [List.nil_append, show cntT [] k = 0 from rfl, Int.zero_add]
  | x :: l, m, k => by rw [List.cons_append, cnt_cons, cnt_cons, cnt_app l m k, Int.add_assoc]
theorem cnt_no : ∀ {l : List Str} {k : Str}, (∀ x ∈ l, x ≠ k) → cntT l k = 0
  | [], _, _ => rfl
  | x :: l, k, h => by rw [cnt_cons, if_neg (h x List.mem_cons_self), cnt_no fun y hy => h y (List.mem_cons_of_mem _ hy)]; rfl
theorem find_at {k : Str} : ∀ {A B : List Str}, (∀ x ∈ A, x ≠ k) → (A ++ k :: B).findIdx? (fun z => decide (z = k)) = some A.length
  | [], B, _ => by simp [List.findIdx?_cons]
  | x :: A, B, h => by
    rw [List.cons_append, List.findIdx?_cons, decide_eq_false (h x List.mem_cons_self), if_neg Bool.false_ne_true, find_at fun y hy => h y (List.mem_cons_of_mem _ hy)]
    rfl
/-- plain signs -/
def Asc (w : Str) : Prop := ∀ c ∈ TL.tl w, c < 128
theorem Asc.sk {w : Str} (h : Asc w) : Sk.ok w = true := by
  show PyData.canLay0 (.str w) = true
  simp only [PyData.canLay0, PyData.strOk]
  refine Array.all_eq_true'.mpr fun c hc => decide_eq_true ?_
  have := h c (Array.mem_toList_iff.mpr hc)
  omega
theorem skS {l : List Str} (h : ∀ x ∈ l, Asc x) : Sk.ok l = true := List.all_eq_true.mpr fun x hx => (h x hx).sk
theorem idx_at {k : Str} {A B : List Str} (h : ∀ x ∈ A, x ≠ k) (ac : ∀ x ∈ A ++ k :: B, Asc x) : idxDG (A ++ k :: B) k = some (A.length : Int) := by
  unfold idxDG
  rw [if_pos ⟨(ac k (by simp)).sk, skS ac⟩, find_at h]
  rfl
theorem sv_sign {i : Int} {c : Nat} (h : c ∈ TL.tl (sv i)) : c = 45 ∨ 48 ≤ c ∧ c ≤ 57 := Classical.byContradiction fun n => PyProof.Rows.int_text_free' c ⟨by omega, by omega⟩ i h
theorem join_sign {y : Str} {c : Nat} : ∀ {l : List Str}, c ∈ TL.tl (Txt.join y l) → c ∈ TL.tl y ∨ ∃ q ∈ l, c ∈ TL.tl q := fun {l} h => by
  rw [TL.join_eq, TL.tl_join] at h
  induction l with
  | nil => cases h
  | cons a l ih =>
    cases l with
    | nil => exact .inr ⟨a, by simp, h⟩
    | cons b r =>
      have h : c ∈ TL.tl a ++ (TL.tl y ++ TL.joinL (TL.tl y) ((b :: r).map TL.tl)) := h
      rcases List.mem_append.mp h with h | h
      · exact .inr ⟨a, by simp, h⟩
      · rcases List.mem_append.mp h with h | h
        · exact .inl h
        · rcases ih h with h | ⟨q, hq, h⟩
          · exact .inl h
          · exact .inr ⟨q, List.mem_cons_of_mem _ hq, h⟩
theorem sp_sign {p : List Int} {c : Nat} (h : c ∈ TL.tl (sp p)) : c = 40 ∨ c = 41 ∨ c = 44 ∨ c = 45 ∨ 48 ≤ c ∧ c ≤ 57 := by
  rw [sp_tl] at h
  rcases List.mem_cons.mp h with h | h
  · exact .inl h
  · rcases List.mem_append.mp h with h | h
    · rcases join_sign h with h | ⟨q, hq, h⟩
      · rw [comma_tl] at h
        exact .inr (.inr (.inl (List.mem_singleton.mp h)))
      · obtain ⟨i, _, rfl⟩ := List.mem_map.mp hq
        exact .inr (.inr (.inr (sv_sign h)))
    · exact .inr (.inl (List.mem_singleton.mp h))
theorem sv_asc (i : Int) : Asc (sv i) := fun c h => by have := sv_sign h; omega
theorem sp_asc (p : List Int) : Asc (sp p) := fun c h => by have := sp_sign h; omega
theorem cut_mid {α : Type} {l : List α} {a b : Nat} (hb : b ≤ l.length) (hab : a ≤ b) : cut l (some (a : Int)) (some (b : Int)) = (l.drop a).take (b - a) := by
  unfold cut
  rw [HT.sIx_nat, HT.sIx_nat, Nat.min_eq_left hb, Nat.min_eq_left (show a ≤ l.length by omega)]
/-! no place's text is a word -/
theorem sp_ne {p : List Int} {w : Str} (h : (TL.tl w).head? ≠ some 40) : sp p ≠ w := fun e => h (by rw [← e, sp_tl]; rfl)
theorem sv_ne {n : Nat} (two : n = 2 ∨ n = 3) : sv (n : Int) ≠ ("hidden" : Str) := by
  rcases two with rfl | rfl <;> decide
theorem sps_ne {l : List (List Int)} : ∀ x ∈ sps l, x ≠ ("hidden" : Str) := fun x hx => by
  obtain ⟨p, _, rfl⟩ := List.mem_map.mp hx
  exact sp_ne (by decide)
theorem sp_bytl : TL.tl (" " : Str) = [32] := by decide
theorem sps_free {l : List (List Int)} : ∀ x ∈ sps l, 32 ∉ TL.tl x := fun x hx => by
  obtain ⟨p, _, rfl⟩ := List.mem_map.mp hx
  exact place_free
theorem wl_free {n : Nat} {s h : List (List Int)} : ∀ x ∈ wl n s h, 32 ∉ TL.tl x := fun x hx => by
  unfold wl at hx
  simp only [List.mem_append, List.mem_cons, List.not_mem_nil, or_false] at hx
  rcases hx with (((rfl | rfl) | hx) | rfl) | hx
  · exact PyProof.Rows.int_text_free' 32 ⟨by decide, by decide⟩ (n : Int)
  · decide
  · exact sps_free x hx
  · decide
  · exact sps_free x hx
theorem wl_asc {n : Nat} {s h : List (List Int)} : ∀ x ∈ wl n s h, Asc x := fun x hx => by
  unfold wl at hx
  simp only [List.mem_append, List.mem_cons, List.not_mem_nil, or_false] at hx
  rcases hx with (((rfl | rfl) | hx) | rfl) | hx
  · exact sv_asc _
  · exact (by decide : ∀ c ∈ TL.tl ("seen" : Str), c < 128)
  · obtain ⟨p, _, rfl⟩ := List.mem_map.mp hx
    exact sp_asc p
  · exact (by decide : ∀ c ∈ TL.tl ("hidden" : Str), c < 128)
  · obtain ⟨p, _, rfl⟩ := List.mem_map.mp hx
    exact sp_asc p
theorem split_wl {n : Nat} {s h : List (List Int)} : Txt.split (shp n s h) " " = wl n s h := TL.split_join (s := 32) (S := []) sp_bytl (by decide +kernel) (by simp) wl_free
def B60 (l : List (List Int)) : Prop := ∀ p ∈ l, ∀ v ∈ p, v.natAbs < 10 ^ 60
theorem B60.sm {n : Nat} (n3 : n ≤ 3) {l : List (List Int)} (hl : ∀ p ∈ l, p.length = n) (b : B60 l) : ∀ p ∈ l, Sm p := fun p hp => ⟨by rw [hl p hp]; exact n3, fun v hv => Nat.lt_of_lt_of_le (b p hp v hv) (by decide)⟩
theorem B60.srt {l : List (List Int)} (b : B60 l) : B60 (srtT l) := fun p hp => b p ((srtT_perm l).mem_iff.mp hp)
theorem place_of_sp {n : Nat} (two : n = 2 ∨ n = 3) {p : List Int} (lp : p.length = n) (b : ∀ v ∈ p, v.natAbs < 10 ^ 60) : m_place_of (sp p) = some (some p) := by
  have sm : Sm p := ⟨by omega, fun v hv => Nat.lt_of_lt_of_le (b v hv) (by decide)⟩
  have z := sizeLine_eq
  have := (show_ok sm).2
  exact place_back (by rcases two with rfl | rfl <;> omega) b (sp_tl p) (by omega)
theorem sizes_ok {n : Nat} (two : n = 2 ∨ n = 3) : notInSG (sv (n : Int)) [("2" : PySem.Str), ("3" : PySem.Str)] = some false ∧ intS (sv (n : Int)) = some (n : Int) := by
  rcases two with rfl | rfl
  · exact ⟨by decide, by decide +kernel⟩
  · exact ⟨by decide, by decide +kernel⟩
theorem read_pic_back {n : Nat} {s h : List (List Int)} (c : Pc n s h) (bs : B60 s) (bh : B60 h) (les : s.length ≤ 2000) (leh : h.length ≤ 2000) : m_read_picture (shp n s h) = some (.ok (pic n (srtT s) (srtT h))) := by
  have two := c.two
  have n3 : n ≤ 3 := by omega
  have z := sizeLine_eq
  have hs := bs.sm n3 c.s
  have hh := bh.sm n3 c.h
  obtain ⟨w1, w2, w3, w4⟩ := wl_ok n3 hs hh les leh
  obtain ⟨a2, a3, a4⟩ := sps_ok hs (by omega)
  obtain ⟨b2, b3, b4⟩ := sps_ok hh (by omega)
  obtain ⟨z1, z2⟩ := sizes_ok two
  have ls : (srtT s).length = s.length := (srtT_perm s).length_eq
  have lh : (srtT h).length = h.length := (srtT_perm h).length_eq
  have sp1 : splitG (shp n s h) " " = some (wl n s h) := by
    unfold splitG
    rw [if_pos ⟨by decide, by omega⟩, split_wl]
  have i0 : ixG (wl n s h) 0 = some (sv n) := ix0
  have i1 : ixG (wl n s h) 1 = some ("seen" : Str) := ix1
  have ew : wl n s h = ([sv (n : Int), ("seen" : Str)] ++ sps s) ++ ("hidden" : Str) :: sps h := by
    unfold wl
    rw [List.append_assoc (_ ++ _)]
    rfl
  have nh : ∀ x ∈ [sv (n : Int), ("seen" : Str)] ++ sps s, x ≠ ("hidden" : Str) := fun x hx => by
    simp only [List.mem_append, List.mem_cons, List.not_mem_nil, or_false] at hx
    rcases hx with (rfl | rfl) | hx
    · exact sv_ne two
    · decide
    · exact sps_ne x hx
  have cn : cntT (wl n s h) "hidden" = 1 := by
    rw [ew, cnt_app, cnt_no nh, cnt_cons, if_pos rfl, cnt_no sps_ne]
    rfl
  have ix : idxDG (wl n s h) "hidden" = some ((s.length + 2 : Nat) : Int) := by
    rw [ew, idx_at nh (by rw [← ew]; exact wl_asc)]
    congr 2
    simp only [List.length_append, List.length_cons, List.length_nil]
    omega
  have c1 : cut (wl n s h) (some 2) (some ((s.length + 2 : Nat) : Int)) = sps s := by
    rw [show (2 : Int) = ((2 : Nat) : Int) from rfl, cut_mid (by omega) (by omega), ew]
    have : ([sv (n : Int), ("seen" : Str)] ++ sps s ++ ("hidden" : Str) :: sps h).drop 2 = sps s ++ ("hidden" : Str) :: sps h := rfl
    rw [this, List.take_left' (by omega)]
  have c2 : cut (wl n s h) (some (((s.length + 2 : Nat) : Int) + 1)) none = sps h := by
    rw [show ((s.length + 2 : Nat) : Int) + 1 = ((s.length + 3 : Nat) : Int) by omega, cut_from, ew]
    have : [sv (n : Int), ("seen" : Str)] ++ sps s ++ ("hidden" : Str) :: sps h = ([sv (n : Int), ("seen" : Str)] ++ sps s ++ [("hidden" : Str)]) ++ sps h := by simp
    rw [this, List.drop_left' (by simp only [List.length_append, List.length_cons, List.length_nil]; omega)]
  have p1 : oLc yes (fun (word : PySem.Str) => (m_place_of word)) (sps s) = some ((srtT s).map some) := lc_back (by omega) fun p hp => place_of_sp two (c.srt.s p hp) (bs.srt p hp)
  have p2 : oLc yes (fun (word : PySem.Str) => (m_place_of word)) (sps h) = some ((srtT h).map some) := lc_back (by omega) fun p hp => place_of_sp two (c.srt.h p hp) (bh.srt p hp)
  have nd := List.nodup_append.mp c.nd
  have q1 : m_ascend ((srtT s).map some) (n : Int) = some true := ascend_ok c.srt.s (fun k hk => lex_next nd.1 hk) (by omega)
  have q2 : m_ascend ((srtT h).map some) (n : Int) = some true := ascend_ok c.srt.h (fun k hk => lex_next nd.2.1 hk) (by omega)
  unfold m_read_picture
  have l3 : decide (((wl n s h).length : Int) < 3) = false := decide_eq_false (by omega)
  simp only [o1_s, o2_s, sp1, bind_s, i0, i1, z1, z2, cn, l3, oOr_f, neG_s, decide_true, Bool.not_true, Bool.false_eq_true, if_false, ix, oCut_s, c1, c2, p1, p2, q1, q2, oNot_s, allO_some, o3_s]
  rw [pic_ok c.srt, bind_s]
/-! k81: what the readers find in any text -/
section
open L2
theorem val_snoc (d : List Nat) (c : Nat) : NumText.digitsVal (d ++ [c]) = NumText.digitsVal d * 10 + (c - 48) := by
  unfold NumText.digitsVal
  rw [List.foldl_append]
  rfl
theorem numL_of (d : List Nat) (h : ∀ c ∈ d, 48 ≤ c ∧ c ≤ 57) (ne : d ≠ []) (h0 : d.head? = some 48 → d = [48]) : TL.numL (NumText.digitsVal d) = d ∧ NumText.digitsVal d < 10 ^ d.length := by
  have key : ∀ (n : Nat) (d : List Nat), d.length = n + 1 → (∀ c ∈ d, 48 ≤ c ∧ c ≤ 57) → (d.head? = some 48 → d = [48]) → TL.numL (NumText.digitsVal d) = d ∧ NumText.digitsVal d < 10 ^ d.length := by
    intro n
    induction n with
    | zero =>
      intro d hl hd _
      obtain ⟨c, rfl⟩ := List.length_eq_one_iff.mp hl
      obtain ⟨c1, c2⟩ := hd c List.mem_cons_self
      have e : NumText.digitsVal [c] = c - 48 := by unfold NumText.digitsVal; simp
      rw [e, TL.numL_lt (by omega)]
      exact ⟨by congr 1; omega, by simp; omega⟩
    | succ n ih =>
      intro d hl hd h0
      obtain ⟨d', c, rfl⟩ : ∃ d' c, d = d' ++ [c] := ⟨d.dropLast, d.getLast (by intro e; rw [e] at hl; cases hl), (List.dropLast_concat_getLast _).symm⟩
      have l' : d'.length = n + 1 := by simpa using hl
      obtain ⟨c1, c2⟩ := hd c (by simp)
      have hne : (d' ++ [c]).head? ≠ some 48 := fun e => by
        have := congrArg List.length (h0 e)
        simp at this
        rw [this] at l'
        cases l'
      have h0' : d'.head? ≠ some 48 := fun e => hne (by
        cases d' with
        | nil => cases l'
        | cons a b => exact e)
      obtain ⟨i1, i2⟩ := ih d' l' (fun x hx => hd x (by simp [hx])) fun e => absurd e h0'
      have pos : 1 ≤ NumText.digitsVal d' := by
        by_cases z : NumText.digitsVal d' = 0
        · rw [z, TL.numL_lt (by decide)] at i1
          exact absurd (by rw [← i1]; rfl) h0'
        · omega
      rw [val_snoc, TL.numL_step (by omega)]
      have e1 : (NumText.digitsVal d' * 10 + (c - 48)) / 10 = NumText.digitsVal d' := by omega
      have e2 : (NumText.digitsVal d' * 10 + (c - 48)) % 10 = c - 48 := by omega
      rw [e1, e2, i1]
      refine ⟨by congr 2; omega, ?_⟩
      rw [List.length_append, List.length_singleton, Nat.pow_succ]
      omega
  cases d with
  | nil => exact absurd rfl ne
  | cons a b => exact key b.length (a :: b) rfl h h0
theorem digs_no : ∀ l : List Nat, (∃ c ∈ l, ¬ (48 ≤ c ∧ c ≤ 57)) → oLoop (γ := Unit) (ρ := (Option Int)) (fun (sign : PySem.Str) (() : Unit) =>
        (o2 hasNotS (some sign) (some ("0123456789" : PySem.Str))).bind fun b => if b = true then
        (some none).bind fun rv => some (.ret rv)
      else
        some (.go ())) (l.map sgn) () = some (.ret none)
  | [], h => by obtain ⟨c, hc, _⟩ := h; cases hc
  | c :: l, h => by
    have e : o2 hasNotS (some (sgn c)) (some ("0123456789" : PySem.Str)) = some (!decide (c ∈ [48, 49, 50, 51, 52, 53, 54, 55, 56, 57])) := by
      show some (!decide (c ∈ (("0123456789" : PySem.Str)).cps.toList)) = _
      rw [dig_tl]
    rw [List.map_cons, oLoop, e]
    by_cases q : 48 ≤ c ∧ c ≤ 57
    · have : c ∈ [48, 49, 50, 51, 52, 53, 54, 55, 56, 57] := by
        simp only [List.mem_cons, List.not_mem_nil, or_false]
        omega
      rw [decide_eq_true this]
      refine digs_no l ?_
      obtain ⟨x, hx, hn⟩ := h
      rcases List.mem_cons.mp hx with rfl | hx
      · exact absurd q hn
      · exact ⟨x, hx, hn⟩
    · have : c ∉ [48, 49, 50, 51, 52, 53, 54, 55, 56, 57] := by
        simp only [List.mem_cons, List.not_mem_nil, or_false]
        omega
      rw [decide_eq_false this]
      rfl
theorem str_zero : TL.tl (("0" : PySem.Str)) = [48] := by decide
theorem intS_pos {w : PySem.Str} {d : List Nat} (e : TL.tl w = d) (h : ∀ c ∈ d, 48 ≤ c ∧ c ≤ 57) (ne : d ≠ []) (hl : d.length ≤ 60) : intS w = some ((NumText.digitsVal d : Nat) : Int) := by
  subst e
  have : w.length ≤ 60 := by rw [TL.len_tl]; exact hl
  unfold intS
  rw [if_pos (by omega)]
  exact intText_digits h ne (by omega)
theorem intS_neg {w : PySem.Str} {d : List Nat} (e : TL.tl w = 45 :: d) (h : ∀ c ∈ d, 48 ≤ c ∧ c ≤ 57) (ne : d ≠ []) (hl : d.length ≤ 60) : intS w = some (-((NumText.digitsVal d : Nat) : Int)) := by
  have : w.length ≤ 61 := by rw [TL.len_tl, e]; simp; exact hl
  unfold intS
  rw [if_pos (by omega)]
  exact intText_neg e h ne (by omega)
theorem sv_pos {w : PySem.Str} {d : List Nat} (e : TL.tl w = d) (h : ∀ c ∈ d, 48 ≤ c ∧ c ≤ 57) (ne : d ≠ []) (h0 : d.head? = some 48 → d = [48]) : w = sv ((NumText.digitsVal d : Nat) : Int) := TL.ext_tl (by
  show _ = TL.tl (Str.ofString (toString ((NumText.digitsVal d : Nat) : Int)))
  rw [TL.tl_num, (numL_of d h ne h0).1, e])
theorem sv_neg {w : PySem.Str} {d : List Nat} (e : TL.tl w = 45 :: d) (h : ∀ c ∈ d, 48 ≤ c ∧ c ≤ 57) (ne : d ≠ []) (h0 : d.head? ≠ some 48) : w = sv (-((NumText.digitsVal d : Nat) : Int)) := TL.ext_tl (by
  have g := (numL_of d h ne fun q => absurd q h0).1
  have pos : NumText.digitsVal d ≠ 0 := fun z => by
    rw [z, TL.numL_lt (by decide)] at g
    exact h0 (by rw [← g]; rfl)
  obtain ⟨m, hm⟩ : ∃ m, NumText.digitsVal d = m + 1 := ⟨NumText.digitsVal d - 1, by omega⟩
  rw [hm] at g ⊢
  show _ = TL.tl (Str.ofString (toString (Int.negSucc m)))
  rw [tl_neg, g, e])
theorem rest_spec {w d : PySem.Str} (hd : TL.tl w = TL.tl d ∧ (TL.tl d).head? ≠ some 45 ∨ TL.tl w = 45 :: TL.tl d) (hw : w.length ≤ sizeLine) : ∃ r, restI w d = some r ∧ ∀ i, r = some i → w = sv i ∧ i.natAbs < 10 ^ 60 := by
  have dl : d.length ≤ w.length := by
    rw [TL.len_tl, TL.len_tl]
    rcases hd with hd | hd
    · rw [hd.1]; exact Nat.le_refl _
    · rw [hd]; simp
  unfold restI
  cases g : TL.tl d with
  | nil =>
    have e : d = ("" : PySem.Str) := TL.ext_tl (by rw [g]; rfl)
    rw [decide_eq_true e, oOr_t]
    exact ⟨none, rfl, fun i h => by cases h⟩
  | cons c l =>
    have e1 : o2 gtG (o1 lenS (some d)) (some 60) = some (decide (60 < (d.length : Int))) := by
      show (lenS d).bind _ = _
      unfold lenS
      rw [if_pos (by omega)]
      rfl
    have len : d.length = (c :: l).length := by rw [TL.len_tl, g]
    rw [not_empty g, oOr_f, e1, bind_s]
    by_cases q : 60 < (d.length : Int)
    · rw [decide_eq_true q]
      exact ⟨none, rfl, fun i h => by cases h⟩
    · rw [decide_eq_false q, if_neg Bool.false_ne_true]
      have l60 : (c :: l).length ≤ 60 := by omega
      have e3 : Option.map signs (some d) = some ((c :: l).map sgn) := by
        show some ((TL.tl d).map sgn) = _
        rw [g]
      rw [e3, bind_s]
      by_cases dg : ∀ x ∈ c :: l, 48 ≤ x ∧ x ≤ 57
      · rw [digs_go (c :: l) dg]
        have a0 : ixS d 0 = some (sgn c) := at0 g (by omega)
        have e4 : oAnd (o2 eqG (o2 ixS (some d) (some 0)) (some ("0" : PySem.Str))) (some (!decide (w = ("0" : PySem.Str)))) = some (decide (c = 48) && !decide (w = ("0" : PySem.Str))) := by
          rw [o2_s, a0, o2_s, eqG_s]
          have : decide (sgn c = ("0" : PySem.Str)) = decide (c = 48) := by
            by_cases z : c = 48
            · subst z; decide
            · rw [decide_eq_false z]
              exact decide_eq_false fun h => z (by have := congrArg TL.tl h; injection this)
          rw [this]
          cases decide (c = 48) <;> rfl
        simp only [bind_s]
        rw [e4, bind_s]
        by_cases z : (decide (c = 48) && !decide (w = ("0" : PySem.Str))) = true
        · rw [if_pos z]
          exact ⟨none, rfl, fun i h => by cases h⟩
        · rw [if_neg z]
          rcases hd with ⟨hd, hn⟩ | hd
          · rw [g] at hd
            have ip := intS_pos hd dg (by simp) l60
            refine ⟨some _, by rw [o1_s, ip]; rfl, fun i h => ?_⟩
            cases h
            have h0 : (c :: l).head? = some 48 → c :: l = [48] := fun h => by
              have c48 : c = 48 := by injection h
              have : w = ("0" : PySem.Str) := by
                simpa [c48] using z
              rw [← hd, this, str_zero]
            refine ⟨sv_pos hd dg (by simp) h0, ?_⟩
            have := (numL_of _ dg (by simp) h0).2
            have := Nat.pow_le_pow_right (show 0 < 10 by decide) l60
            omega
          · rw [g] at hd
            have h0 : (c :: l).head? ≠ some 48 := fun h => by
              have c48 : c = 48 := by injection h
              have : w = ("0" : PySem.Str) := by
                simpa [c48] using z
              rw [this, str_zero] at hd
              cases hd
            have ip := intS_neg hd dg (by simp) l60
            refine ⟨some _, by rw [o1_s, ip]; rfl, fun i h => ?_⟩
            cases h
            refine ⟨sv_neg hd dg (by simp) h0, ?_⟩
            have := (numL_of _ dg (by simp) fun h => absurd h h0).2
            have := Nat.pow_le_pow_right (show 0 < 10 by decide) l60
            omega
      · rw [digs_no (c :: l) (by
          refine Classical.byContradiction fun h => dg fun x hx => Classical.byContradiction fun hn => h ⟨x, hx, hn⟩)]
        exact ⟨none, rfl, fun i h => by cases h⟩
theorem sw_nil {w : PySem.Str} (e : TL.tl w = []) : Txt.startswith w "-" = false := by
  have ew : w = ⟨([] : List Nat).toArray⟩ := by rw [← e]
  subst ew
  decide
theorem integer_spec {w : PySem.Str} (hw : w.length ≤ sizeLine) : ∃ r, m_integer_of w = some r ∧ ∀ i, r = some i → w = sv i ∧ i.natAbs < 10 ^ 60 := by
  have go : m_integer_of w = ((o2 (fun a b => some (Txt.startswith a b)) (some w) (some ("-" : PySem.Str))).bind fun b => if b = true then
      (oCutS (some w) (some (some 1)) (some none)).bind fun (digits : PySem.Str) => some (digits)
    else some w).bind fun d => restI w d := rfl
  rw [go]
  show ∃ r, ((some (Txt.startswith w "-")).bind _).bind _ = some r ∧ _
  cases g : TL.tl w with
  | nil =>
    rw [sw_nil g]
    exact rest_spec (.inl ⟨rfl, by rw [g]; simp⟩) hw
  | cons c l =>
    rw [sw_minus g]
    by_cases q : c = 45
    · subst q
      have c1 : oCutS (some w) (some (some 1)) (some none) = some (cutS w (some 1) none) := by
        show cutG _ _ _ = _
        unfold cutG
        rw [if_pos hw]
      rw [decide_eq_true rfl, bind_s, if_pos rfl, c1]
      exact rest_spec (.inr (by rw [g, cut_one g])) hw
    · rw [decide_eq_false q]
      exact rest_spec (.inl ⟨rfl, by rw [g]; simpa using q⟩) hw
/-! split and join -/
theorem spl1 (s : Nat) : ∀ (acc l : List Nat), TL.joinL [s] (TL.spl [s] 0 acc l) = acc ++ l ∧ TL.spl [s] 0 acc l ≠ [] ∧ (s ∉ acc → ∀ q ∈ TL.spl [s] 0 acc l, s ∉ q)
  | acc, [] => by
    rw [TL.spl_nil]
    exact ⟨by simp [TL.joinL], by simp, fun h q hq => by rw [List.mem_singleton.mp hq]; exact h⟩
  | acc, c :: r => by
    by_cases h : c = s
    · subst h
      obtain ⟨i1, i2, i3⟩ := spl1 c [] r
      rw [TL.spl_hit (by simp [TL.pre])]
      show TL.joinL [c] (acc :: TL.spl [c] 0 [] r) = _ ∧ (acc :: TL.spl [c] 0 [] r) ≠ [] ∧ _
      refine ⟨?_, by simp, fun h q hq => ?_⟩
      · cases g : TL.spl [c] 0 [] r with
        | nil => exact absurd g i2
        | cons a q =>
          rw [g] at i1
          show acc ++ ([c] ++ TL.joinL [c] (a :: q)) = _
          rw [i1]
          simp
      · rcases List.mem_cons.mp hq with rfl | hq
        · exact h
        · exact i3 (by simp) q hq
    · obtain ⟨i1, i2, i3⟩ := spl1 s (acc ++ [c]) r
      rw [TL.spl_miss (TL.pre_of_head [] r h)]
      refine ⟨by rw [i1]; simp, i2, fun hs q hq => i3 ?_ q hq⟩
      intro hm
      rcases List.mem_append.mp hm with hm | hm
      · exact hs hm
      · exact h (List.mem_singleton.mp hm).symm
theorem split1 {y : PySem.Str} {s : Nat} (ey : TL.tl y = [s]) (hk : y.cps.all (· < 256) = true) (m : PySem.Str) : Txt.join y (Txt.split m y) = m ∧ Txt.split m y ≠ [] ∧ ∀ q ∈ Txt.split m y, s ∉ TL.tl q := by
  have e := TL.split_spl m y (by rw [ey]; simp) (TL.kind_ok hk)
  rw [ey] at e
  obtain ⟨i1, i2, i3⟩ := spl1 s [] (TL.tl m)
  refine ⟨TL.ext_tl ?_, fun h => i2 ?_, fun q hq => ?_⟩
  · rw [TL.join_eq, TL.tl_join, e, ey, i1]
    rfl
  · rw [← e, h]
    rfl
  · exact i3 (by simp) (TL.tl q) (by rw [← e]; exact List.mem_map.mpr ⟨q, hq, rfl⟩)
theorem part_len {S : List Nat} : ∀ {l : List (List Nat)} {q : List Nat}, q ∈ l → q.length ≤ (TL.joinL S l).length
  | [], _, h => by cases h
  | [a], q, h => by rw [List.mem_singleton.mp h]; exact Nat.le_refl _
  | a :: b :: l, q, h => by
    show q.length ≤ (a ++ (S ++ TL.joinL S (b :: l))).length
    rw [List.length_append, List.length_append]
    rcases List.mem_cons.mp h with rfl | h
    · omega
    · have := part_len (S := S) h
      omega
theorem parts_len {S : List Nat} (hS : 0 < S.length) : ∀ (l : List (List Nat)), l.length ≤ (TL.joinL S l).length + 1
  | [] => by simp
  | [a] => by simp
  | a :: b :: l => by
    show _ ≤ (a ++ (S ++ TL.joinL S (b :: l))).length + 1
    have := parts_len hS (b :: l)
    simp only [List.length_append, List.length_cons] at this ⊢
    omega
theorem split_len {y : PySem.Str} {s : Nat} (ey : TL.tl y = [s]) (hk : y.cps.all (· < 256) = true) (m : PySem.Str) : (∀ q ∈ Txt.split m y, q.length ≤ m.length) ∧ (Txt.split m y).length ≤ m.length + 1 := by
  have e := (split1 ey hk m).1
  have e2 := congrArg TL.tl e
  rw [TL.join_eq, TL.tl_join, ey] at e2
  refine ⟨fun q hq => ?_, ?_⟩
  · rw [TL.len_tl, TL.len_tl, ← e2]
    exact part_len (List.mem_map.mpr ⟨q, hq, rfl⟩)
  · have := parts_len (S := [s]) (by simp) ((Txt.split m y).map TL.tl)
    rw [e2, List.length_map] at this
    rw [TL.len_tl]
    exact this
theorem comma_ok : (("," : PySem.Str)).cps.all (· < 256) = true := by decide +kernel
theorem blank_ok : ((" " : PySem.Str)).cps.all (· < 256) = true := by decide +kernel
theorem blank_tl : TL.tl (" " : PySem.Str) = [32] := by decide
/-! a place in any text -/
theorem ints_spec : ∀ (l : List PySem.Str), (∀ w ∈ l, w.length ≤ sizeLine) → ∃ rs, oMap yes (fun (part : PySem.Str) => m_integer_of part) l = some rs ∧ rs.length = l.length ∧ ∀ p, allO rs = some p → l = p.map sv ∧ ∀ i ∈ p, i.natAbs < 10 ^ 60
  | [], _ => ⟨[], rfl, rfl, fun p h => by cases h; exact ⟨rfl, fun i hi => by cases hi⟩⟩
  | w :: l, h => by
    obtain ⟨r, e1, q1⟩ := integer_spec (h w List.mem_cons_self)
    obtain ⟨rs, e2, l2, q2⟩ := ints_spec l fun x hx => h x (List.mem_cons_of_mem _ hx)
    refine ⟨r :: rs, ?_, by simp [l2], fun p hp => ?_⟩
    · rw [oMap]
      show ((m_integer_of w).bind fun r => (oMap yes (fun (part : PySem.Str) => m_integer_of part) l).bind fun rs => some (r :: rs)) = _
      rw [e1, e2]
      rfl
    · cases r with
      | none => cases hp
      | some i =>
        have hp : (allO rs).map (i :: ·) = some p := hp
        cases g : allO rs with
        | none => rw [g] at hp; cases hp
        | some ps =>
          rw [g] at hp
          cases hp
          obtain ⟨a1, a2⟩ := q1 i rfl
          obtain ⟨b1, b2⟩ := q2 ps g
          refine ⟨by rw [List.map_cons, ← a1, ← b1], fun j hj => ?_⟩
          rcases List.mem_cons.mp hj with rfl | hj
          · exact a2
          · exact b2 j hj
theorem allO_iff {α : Type} : ∀ (l : List (Option α)), none ∉ l → ∃ p, allO l = some p ∧ l = p.map some
  | [], _ => ⟨[], rfl, rfl⟩
  | none :: l, h => absurd List.mem_cons_self h
  | some a :: l, h => by
    obtain ⟨p, e, q⟩ := allO_iff l fun z => h (List.mem_cons_of_mem _ z)
    exact ⟨a :: p, by rw [allO, e]; rfl, by rw [List.map_cons, ← q]⟩
theorem inN {α : Type} [DecidableEq α] [Sk α] [SkA α] (a : α) (l : List α) : ∃ b, inDG a l = some b ∧ (b = true ↔ a ∈ l) := ⟨_, inDG_s a l, decide_eq_true_iff⟩
theorem place_spec {w : PySem.Str} (hw : w.length ≤ 10000000) : ∃ r, m_place_of w = some r ∧ ∀ p, r = some p → w = sp p ∧ (p.length = 2 ∨ p.length = 3) ∧ ∀ i ∈ p, i.natAbs < 10 ^ 60 := by
  have no : ∀ {m : Option (Option (List Int))}, m = some none → ∃ r, m = some r ∧ ∀ p, r = some p → w = sp p ∧ (p.length = 2 ∨ p.length = 3) ∧ ∀ i ∈ p, i.natAbs < 10 ^ 60 := fun h => ⟨none, h, fun p q => by cases q⟩
  have zz := sizeLine_eq
  unfold m_place_of
  have e0 : o2 ltG (o1 lenS (some w)) (some 2) = some (decide ((w.length : Int) < 2)) := by
    show (lenS w).bind _ = _
    unfold lenS
    rw [if_pos (by omega)]
    rfl
  rw [e0]
  by_cases c0 : (w.length : Int) < 2
  · rw [decide_eq_true c0]
    exact no rfl
  · rw [decide_eq_false c0, oOr_f]
    have lw : 2 ≤ (TL.tl w).length := by rw [← TL.len_tl]; omega
    obtain ⟨c, l, g⟩ : ∃ c l, TL.tl w = c :: l := by
      cases g : TL.tl w with
      | nil => rw [g] at lw; simp at lw
      | cons c l => exact ⟨c, l, rfl⟩
    have ll : l ≠ [] := fun h => by rw [g, h] at lw; simp at lw
    obtain ⟨m, z, rfl⟩ : ∃ m z, l = m ++ [z] := ⟨l.dropLast, l.getLast ll, (List.dropLast_concat_getLast ll).symm⟩
    have a0 : ixS w 0 = some (sgn c) := at0 g (by omega)
    have a1 : ixS w (-1) = some (sgn z) := at_end (l := c :: m) (by rw [g]; simp) (by omega)
    rw [o2_s, o2_s, a0, a1, o2_s, o2_s, neG_s, neG_s]
    by_cases c1 : c = 40 ∧ z = 41
    · obtain ⟨rfl, rfl⟩ := c1
      rw [show (!decide (sgn 40 = ("(" : PySem.Str))) = false by decide, show (!decide (sgn 41 = (")" : PySem.Str))) = false by decide, oOr_f, bind_s, if_neg Bool.false_ne_true]
      have em : cutS w (some 1) (some (-1)) = ⟨m.toArray⟩ := mid_cut g
      have lm : (⟨m.toArray⟩ : PySem.Str).length + 2 = w.length := by rw [TL.len_tl, TL.len_tl, g]; simp
      have c2 : o2 splitG (oCutS (some w) (some (some 1)) (some (some (-1)))) (some ("," : PySem.Str)) = some (Txt.split ⟨m.toArray⟩ ",") := by
        show (cutG w (some 1) (some (-1))).bind _ = _
        unfold cutG
        rw [if_pos (by omega), em]
        show splitG _ _ = _
        unfold splitG
        rw [if_pos ⟨by decide, by omega⟩]
      obtain ⟨s1, s2, s3⟩ := split1 comma_tl comma_ok ⟨m.toArray⟩
      obtain ⟨s4, s5⟩ := split_len comma_tl comma_ok ⟨m.toArray⟩
      obtain ⟨rs, e3, l3, q3⟩ := ints_spec (Txt.split ⟨m.toArray⟩ ",") fun x hx => by have := s4 x hx; omega
      have e4 : o1 (oLc yes (fun (part : PySem.Str) => (m_integer_of part))) (some (Txt.split ⟨m.toArray⟩ ",")) = some rs := by
        show oLc yes _ _ = _
        unfold oLc
        rw [if_pos (by omega)]
        exact e3
      rw [c2, e4, bind_s, o2_s, notInG_s]
      by_cases c3 : (rs.length : Int) ∈ [(2 : Int), 3]
      · rw [decide_eq_true c3]
        show ∃ r, (oOr (some false) (o2 inDG (some none) (some rs))).bind _ = some r ∧ _
        obtain ⟨b, eb, hb⟩ := inN none rs
        rw [oOr_f, o2_s, eb, bind_s]
        cases b with
        | true => exact no rfl
        | false =>
          rw [if_neg Bool.false_ne_true]
          obtain ⟨p, e5, e6⟩ := allO_iff rs fun z => by cases hb.mpr z
          rw [bind_s, e5]
          refine ⟨some p, rfl, fun p' hp => ?_⟩
          cases hp
          obtain ⟨b1, b2⟩ := q3 p e5
          refine ⟨TL.ext_tl ?_, ?_, b2⟩
          · have s6 := congrArg TL.tl s1
            rw [b1] at s6
            rw [sp_tl, g, show TL.tl (Txt.join "," (p.map fun i => Str.ofString (toString i))) = m from s6]
          · have : rs.length = p.length := by rw [e6, List.length_map]
            simp only [List.mem_cons, List.not_mem_nil, or_false] at c3
            omega
      · rw [decide_eq_false c3]
        exact no rfl
    · refine no ?_
      have : (!decide (sgn c = ("(" : PySem.Str)) || !decide (sgn z = (")" : PySem.Str))) = true := by
        by_cases h1 : c = 40
        · have h2 : z ≠ 41 := fun h => c1 ⟨h1, h⟩
          rw [decide_eq_false (p := sgn z = (")" : PySem.Str)) fun h => h2 (by have := congrArg TL.tl h; injection this)]
          simp
        · rw [decide_eq_false (p := sgn c = ("(" : PySem.Str)) fun h => h1 (by have := congrArg TL.tl h; injection this)]
          rfl
      have : oOr (some (!decide (sgn c = ("(" : PySem.Str)))) (some (!decide (sgn z = (")" : PySem.Str)))) = some true := by
        rw [← this]
        cases decide (sgn c = ("(" : PySem.Str)) <;> rfl
      rw [this]
      rfl
/-- a text with a blank is no place's -/
theorem place_no {w : PySem.Str} (hw : w.length ≤ 10000000) (h : 32 ∈ TL.tl w) : m_place_of w = some none := by
  obtain ⟨r, e, q⟩ := place_spec hw
  cases r with
  | none => exact e
  | some p => exact absurd (by rw [← (q p rfl).1]; exact h) (place_free (p := p))
end
/-! k81: lines read, texts of the other kinds -/
theorem by_tl : TL.tl (" by " : Str) = [32, 98, 121, 32] := by decide
theorem by_okc : ((" by " : Str)).cps.all (· < 256) = true := by decide +kernel
theorem shl_join (a b : List Int) : shl a b = Txt.join " by " [sp a, sp b] := TL.ext_tl (by
  rw [TL.join_eq, TL.tl_join]
  unfold shl
  rw [TL.tl_append, TL.tl_append, List.append_assoc]
  rfl)
theorem split_by (a b : List Int) : Txt.split (shl a b) " by " = [sp a, sp b] := by
  rw [shl_join]
  exact TL.split_join by_tl by_okc (by simp) fun p hp => by
    simp only [List.mem_cons, List.not_mem_nil, or_false] at hp
    rcases hp with rfl | rfl <;> exact place_free
theorem LN.b {n : Nat} {a b : List Int} (h : LN n a b) (two : n = 2 ∨ n = 3) : m_place_of (sp a) = some (some a) ∧ m_place_of (sp b) = some (some b) := ⟨place_of_sp two h.la h.ba, place_of_sp two h.lb h.bb⟩
theorem read_line_back {n : Nat} (two : n = 2 ∨ n = 3) {a b : List Int} (h : LN n a b) : m_read_line (shl a b) = some (.ok (a, b)) := by
  have z := sizeLine_eq
  obtain ⟨sa, sb⟩ := h.sm (by omega)
  have sl := (shl_ok sa sb).2
  have sp1 : splitG (shl a b) " by " = some [sp a, sp b] := by
    unfold splitG
    rw [if_pos ⟨by decide, by omega⟩, split_by]
  have p1 : oLc yes (fun (word : PySem.Str) => (m_place_of word)) [sp a, sp b] = some [some a, some b] := lc_back (l := [a, b]) (g := sp) (h := some) (by simp) fun p hp => by
    simp only [List.mem_cons, List.not_mem_nil, or_false] at hp
    rcases hp with rfl | rfl
    · exact (h.b two).1
    · exact (h.b two).2
  have i1 : inDG (none : Option (List Int)) [some a, some b] = some false := by rw [inDG_s]; simp
  have i2 : ixG [some a, some b] 0 = some (some a) := ix0
  have i3 : ixG [some a, some b] 1 = some (some b) := ix1
  unfold m_read_line
  have l2 : decide ((([some a, some b] : List (Option (List Int))).length : Int) = 2) = true := rfl
  simp only [o2_s, sp1, o1_s, p1, bind_s, l2, Bool.not_true, oOr_f, i1, Bool.false_eq_true, if_false, i2, i3]
  rw [mkL_ok two h.la h.lb h.g]
  rfl
theorem unread_ok {d : Int} {t : Str} (e : m_by_door d t = some (.error ⟨"Unreadable", .str t⟩)) : m_unread d t = some true := by
  unfold m_unread
  rw [bind_s, e, bind_s]
  have q : subE ("Unreadable" : Str) "Unreadable" = true := by decide
  simp only [bind_s, q, if_true]
  show oAnd (some true) (some (decide (t = t))) = some true
  rw [decide_eq_true rfl]
  rfl
theorem un0 {t : Str} (e : m_place_of t = some none) : m_unread 0 t = some true := unread_ok (by
  unfold m_by_door m_read_place
  rw [e]
  rfl)
theorem un1 {t : Str} {ws : List Str} (hz : t.length + 2 ≤ sizeLine) (e : Txt.split t " " = ws) (h : ws.length < 3 ∨ ∃ p r, ws = sp p :: r) : m_unread 1 t = some true := unread_ok (by
  unfold m_by_door m_read_picture
  have sp1 : splitG t " " = some ws := by
    unfold splitG
    rw [if_pos ⟨by decide, hz⟩, e]
  have q1 : decide ((1 : Int) = 0) = false := by decide
  have q2 : decide ((1 : Int) = 1) = true := by decide
  simp only [q1, q2, bind_s, Bool.false_eq_true, if_false, if_true, o2_s, sp1]
  by_cases c : (ws.length : Int) < 3
  · rw [decide_eq_true c]
    rfl
  · obtain ⟨p, r, rfl⟩ := h.resolve_left (by omega)
    have n1 : notInSG (sp p) [("2" : PySem.Str), ("3" : PySem.Str)] = some true := by
      show some (!decide _) = _
      rw [decide_eq_false fun h => ?_]
      · rfl
      · simp only [List.mem_cons, List.not_mem_nil, or_false] at h
        rcases h with h | h
        · exact sp_ne (by decide) h
        · exact sp_ne (by decide) h
    rw [decide_eq_false c, ix0, oOr_f, o2_s, n1]
    rfl)
theorem no_by {t : Str} (h : 98 ∉ TL.tl t) : Txt.split t " by " = [t] := TL.map_tl_inj (by
  rw [TL.split_spl t " by " (by rw [by_tl]; simp) (TL.kind_ok by_okc), by_tl]
  rw [TL.spl_last fun i hi => ?_]
  · rfl
  · show (((TL.tl t).drop i).take 4 == [32, 98, 121, 32]) = false
    cases q : (((TL.tl t).drop i).take 4 == [32, 98, 121, 32]) with
    | false => rfl
    | true =>
      have e := eq_of_beq q
      exact absurd (List.mem_of_mem_drop (List.mem_of_mem_take (by rw [e]; simp : 98 ∈ ((TL.tl t).drop i).take 4))) h)
theorem un2 {t : Str} (hz : t.length ≤ 10000000) (h : 98 ∉ TL.tl t) : m_unread 2 t = some true := unread_ok (by
  have z := sizeLine_eq
  obtain ⟨r, e, _⟩ := place_spec hz
  unfold m_by_door m_read_line
  have sp1 : splitG t " by " = some [t] := by
    unfold splitG
    rw [if_pos ⟨by decide, by omega⟩, no_by h]
  have p1 : oLc yes (fun (word : PySem.Str) => (m_place_of word)) [t] = some [r] := lc_back (l := [t]) (g := fun w => w) (h := fun _ => r) (by simp) fun p hp => by
    rw [List.mem_singleton.mp hp, e]
  have q1 : decide ((2 : Int) = 0) = false := by decide
  have q2 : decide ((2 : Int) = 1) = false := by decide
  have q3 : decide ((([r] : List (Option (List Int))).length : Int) = 2) = false := rfl
  simp only [q1, q2, q3, bind_s, Bool.false_eq_true, if_false, if_true, o2_s, sp1, o1_s, p1, Bool.not_false, oOr_t]
  rfl)
theorem shp_sign {n : Nat} {s h : List (List Int)} {c : Nat} (hc : c ∈ TL.tl (shp n s h)) : c = 32 ∨ c ∈ TL.tl ("seen" : Str) ∨ c ∈ TL.tl ("hidden" : Str) ∨ c = 40 ∨ c = 41 ∨ c = 44 ∨ c = 45 ∨ 48 ≤ c ∧ c ≤ 57 := by
  rcases join_sign hc with h | ⟨q, hq, h⟩
  · rw [blank_tl] at h
    exact .inl (List.mem_singleton.mp h)
  · simp only [List.mem_append, List.mem_cons, List.not_mem_nil, or_false] at hq
    rcases hq with (((rfl | rfl) | hq) | rfl) | hq
    · have := sv_sign h
      omega
    · exact .inr (.inl h)
    · obtain ⟨p, _, rfl⟩ := List.mem_map.mp hq
      have := sp_sign h
      omega
    · exact .inr (.inr (.inl h))
    · obtain ⟨p, _, rfl⟩ := List.mem_map.mp hq
      have := sp_sign h
      omega
theorem shp_no98 {n : Nat} {s h : List (List Int)} : 98 ∉ TL.tl (shp n s h) := fun hc => by
  rcases shp_sign hc with h | h | h | h
  · omega
  · exact absurd h (by decide)
  · exact absurd h (by decide)
  · omega
theorem shp_32 {n : Nat} {s h : List (List Int)} : 32 ∈ TL.tl (shp n s h) := by
  have e : shp n s h = Txt.join " " (sv (n : Int) :: ("seen" : Str) :: (sps s ++ [("hidden" : Str)] ++ sps h)) := rfl
  rw [e, TL.join_eq, TL.tl_join, blank_tl]
  show 32 ∈ TL.tl (sv (n : Int)) ++ ([32] ++ _)
  simp
theorem shl_32 {a b : List Int} : 32 ∈ TL.tl (shl a b) := by
  unfold shl
  rw [TL.tl_append, TL.tl_append, by_tl]
  simp
theorem split_blank (a b : List Int) : Txt.split (shl a b) " " = [sp a, "by", sp b] := by
  have e : shl a b = Txt.join " " [sp a, "by", sp b] := TL.ext_tl (by
    rw [TL.join_eq, TL.tl_join]
    unfold shl
    rw [TL.tl_append, TL.tl_append, by_tl, List.append_assoc]
    rfl)
  rw [e]
  exact TL.split_join sp_bytl blank_ok (by simp) fun p hp => by
    simp only [List.mem_cons, List.not_mem_nil, or_false] at hp
    rcases hp with rfl | rfl | rfl
    · exact place_free
    · decide
    · exact place_free
theorem split_place (a : List Int) : Txt.split (sp a) " " = [sp a] := by
  have e : sp a = Txt.join " " [sp a] := TL.ext_tl (by rw [TL.join_eq, TL.tl_join]; rfl)
  have := TL.split_join (y := (" " : Str)) (s := 32) (S := []) sp_bytl blank_ok (parts := [sp a]) (by simp) fun p hp => by
    rw [List.mem_singleton.mp hp]; exact place_free
  rw [← e] at this
  exact this
/-! one picture and its text -/
structure Q (n : Nat) (s h : List (List Int)) : Prop where
  c : Pc n s h
  bs : B60 s
  bh : B60 h
  ls : s.length ≤ 2000
  lh : h.length ≤ 2000
theorem srt_idem (l : List (List Int)) : srtT (srtT l) = srtT l := srt_uniq (srtT_perm l)
theorem Q.srt {n : Nat} {s h : List (List Int)} (q : Q n s h) : Q n (srtT s) (srtT h) := ⟨q.c.srt, q.bs.srt, q.bh.srt, by rw [(srtT_perm s).length_eq]; exact q.ls, by rw [(srtT_perm h).length_eq]; exact q.lh⟩
theorem Q.n3 {n : Nat} {s h : List (List Int)} (q : Q n s h) : n ≤ 3 := by have := q.c.two; omega
theorem Q.show {n : Nat} {s h : List (List Int)} (q : Q n s h) : m_show_picture (pic n s h) = some (shp n s h) := shp_ok q.n3 (q.bs.sm q.n3 q.c.s) (q.bh.sm q.n3 q.c.h) q.ls q.lh
theorem Q.read {n : Nat} {s h : List (List Int)} (q : Q n s h) : m_read_picture (shp n s h) = some (.ok (pic n (srtT s) (srtT h))) := read_pic_back q.c q.bs q.bh q.ls q.lh
theorem shp_srt (n : Int) (s h : List (List Int)) : shp n (srtT s) (srtT h) = shp n s h := shp_perm (srtT_perm s) (srtT_perm h)
theorem okX {α : Type} (x : α) : okG (Except.ok (ε := Er) x) = some x := rfl
theorem lenP {n : Nat} {s h : List (List Int)} (le : s.length + h.length ≤ 1000000) : lenO m_Picture___len__ (pic n s h) = some ((s.length + h.length : Nat) : Int) := by
  have e : m_Picture___len__ (pic n s h) = some ((s.length + h.length : Nat) : Int) := by
    show some ((wds s h).length : Int) = _
    rw [wds_len]
  unfold lenO
  rw [e, bind_s, if_pos ⟨by omega, by omega⟩]
theorem again_ok {n : Nat} {s h : List (List Int)} (q : Q n s h) : m_again (pic n s h) = some (some (pic n (srtT s) (srtT h))) := by
  have two := q.c.two
  have hs := q.bs.sm q.n3 q.c.s
  have hh := q.bh.sm q.n3 q.c.h
  obtain ⟨w1, w2, w3, w4⟩ := wl_ok q.n3 hs hh q.ls q.lh
  obtain ⟨a2, a3, a4⟩ := sps_ok hs q.ls
  obtain ⟨b2, b3, b4⟩ := sps_ok hh q.lh
  have l1 := q.ls
  have l2 := q.lh
  have ls : (srtT s).length = s.length := (srtT_perm s).length_eq
  have lh : (srtT h).length = h.length := (srtT_perm h).length_eq
  have e1 := (str_ok (v := (n : Int)) (Nat.lt_of_le_of_lt (show (n : Int).natAbs ≤ 3 by have := q.n3; omega) (by decide))).1
  have sz : szG [sv n, ("seen" : Str)] = some [sv n, "seen"] := szG_s (by simp)
  have c1 : catG [sv n, ("seen" : Str)] (sps s) = some ([sv n, "seen"] ++ sps s) := catG_s (by simp; omega)
  have c2 : catG ([sv n, ("seen" : Str)] ++ sps s) [("hidden" : Str)] = some ([sv n, "seen"] ++ sps s ++ [("hidden" : Str)]) := catG_s (by simp; omega)
  have c3 : catG ([sv n, ("seen" : Str)] ++ sps s ++ [("hidden" : Str)]) (sps h) = some (wl n s h) := catG_s (by simp; omega)
  have d1 : m_Picture_size (pic n s h) = some (n : Int) := rfl
  have d2 : m_Picture_seen (pic n s h) = some (srtT s) := rfl
  have d3 : m_Picture_hidden (pic n s h) = some (srtT h) := rfl
  have eq1 : m_Picture___eq__ (pic n (srtT s) (srtT h)) (pic n s h) = some true := eq_same (srtT_perm s) (srtT_perm h)
  have sh2 : m_show_picture (pic n (srtT s) (srtT h)) = some (shp n s h) := by rw [q.srt.show, shp_srt]
  have len1 : lenO m_Picture___len__ (pic n s h) = some ((s.length + h.length : Nat) : Int) := lenP (by omega)
  have len2 : lenO m_Picture___len__ (pic n (srtT s) (srtT h)) = some ((s.length + h.length : Nat) : Int) := by rw [lenP (by omega), ls, lh]
  have ct : cut (wl n s h) (some 2) none = (srtT s).map sp ++ (("hidden" : Str) :: (srtT h).map sp) := by
    rw [show (2 : Int) = ((2 : Nat) : Int) from rfl, cut_from]
    show sps s ++ [("hidden" : Str)] ++ sps h = sps s ++ (("hidden" : Str) :: sps h)
    simp
  have rp : ∀ {p : List Int}, p.length = n → (∀ v ∈ p, v.natAbs < 10 ^ 60) → m_read_place (sp p) = some (.ok p) := fun lp b => by
    unfold m_read_place
    rw [place_of_sp two lp b]
    rfl
  have tst : ∀ p : List Int, (some (!decide (sp p = ("hidden" : Str)))) = some true := fun p => by rw [decide_eq_false (sp_ne (by decide))]; rfl
  have rd : oLc (fun (word : PySem.Str) => (some (!decide (word = ("hidden" : PySem.Str))))) (fun (word : PySem.Str) => ((m_read_place word).bind okG)) (cut (wl n s h) (some 2) none) = some (srtT s ++ srtT h) := by
    rw [ct]
    unfold oLc
    rw [if_pos (by simp; omega)]
    have m1 : oMap (fun (word : PySem.Str) => (some (!decide (word = ("hidden" : PySem.Str))))) (fun (word : PySem.Str) => ((m_read_place word).bind okG)) ((srtT s).map sp) = some ((srtT s).map fun p => p) := omap_back fun p hp => ⟨tst p, by rw [rp (q.c.srt.s p hp) (q.bs.srt p hp)]; rfl⟩
    have m2 : oMap (fun (word : PySem.Str) => (some (!decide (word = ("hidden" : PySem.Str))))) (fun (word : PySem.Str) => ((m_read_place word).bind okG)) ((srtT h).map sp) = some ((srtT h).map fun p => p) := omap_back fun p hp => ⟨tst p, by rw [rp (q.c.srt.h p hp) (q.bh.srt p hp)]; rfl⟩
    have m3 : oMap (fun (word : PySem.Str) => (some (!decide (word = ("hidden" : PySem.Str))))) (fun (word : PySem.Str) => ((m_read_place word).bind okG)) (("hidden" : Str) :: (srtT h).map sp) = some ((srtT h).map fun p => p) := by
      rw [oMap, decide_eq_true rfl]
      exact m2
    rw [omap_app _ _ m1 m3, List.map_id', List.map_id']
  have sc : catG (srtT s) (srtT h) = some (srtT s ++ srtT h) := catG_s (by omega)
  unfold m_again
  simp only [d1, d2, d3, o1_s, e1, oCons_s, sz, a2, b2, bind_s, o2_s, c1, c2, c3, q.show, w3, neG_s, decide_true, Bool.not_true, Bool.false_eq_true, if_false, q.read, okX, eq1, oNot_s, sh2, oOr_f, len1, len2, oCut_s, rd, sc, neR]
/-! k81: joins and rests of pictures that were read -/
abbrev PT81 := Int × (List (List Int × PySem.Str)) × (List (List Int)) × (List (List Int))
theorem joined_ok {P R S : PT81} {t : Str} (e : m_Picture___or__ P R = some (.ok S)) (f : m_show_picture S = some t) : m_joined P R = some (.inl t) := by
  unfold m_joined
  have g : (Option.map (Sum.inl (β := List Int)) (o1 m_show_picture (some S))).bind (fun rv => some rv) = some (.inl t) := by rw [o1_s, f]; rfl
  rw [bind_s, e]
  exact g
theorem joined_bad {P R : PT81} {p : List Int} (e : m_Picture___or__ P R = some (.error ⟨"Conflict", .tup p⟩)) : m_joined P R = some (.inr p) := by
  unfold m_joined
  have q : subE ("Conflict" : Str) "Conflict" = true := by decide
  rw [bind_s, e]
  show (Option.bind (if subE ("Conflict" : Str) "Conflict" = true then _ else none) _) = _
  rw [q]
  rfl
def datJ : Str ⊕ List Int → PyData := Sum.elim PyData.str (fun (l : (List Int)) => PyData.tuple (l.map PyData.int))
theorem neJ (r : Str ⊕ List Int) (h : ∀ t, r = .inl t → Asc t) : neU (datJ r) (datJ r) = some false := by
  cases r with
  | inl t =>
    have a := (h t rfl).sk
    have a : PyData.canLay0 (.str t) = true := a
    refine neU_same ?_ ?_
    · show (PyData.canLay0 (.str t) && decide (PyData.depth (.str t) ≤ 64)) = true
      rw [a]
      rfl
    · show PyData.eqv (.str t) (.str t) = true
      rw [eqv_str, decide_eq_true rfl]
  | inr p =>
    refine neU_same ?_ ?_
    · show (PyData.canLay0 (.tuple (p.map .int)) && decide (PyData.depth (.tuple (p.map .int)) ≤ 64)) = true
      simp only [PyData.canLay0, lay_ints, PyData.depth, dep_ints]
      rfl
    · show PyData.eqvAll (p.map .int) (p.map .int) = true
      rw [eqv_ints, decide_eq_true rfl]
theorem shp_asc {n : Nat} {s h : List (List Int)} : Asc (shp n s h) := fun c hc => by
  rcases shp_sign hc with h | h | h | h
  · omega
  · exact (by decide : ∀ c ∈ TL.tl ("seen" : Str), c < 128) c h
  · exact (by decide : ∀ c ∈ TL.tl ("hidden" : Str), c < 128) c h
  · omega
def Bn (l : List (List Int)) : Prop := ∀ p ∈ l, ∀ v ∈ p, v.natAbs < 10 ^ 70
theorem Bn.sm {n : Nat} (n3 : n ≤ 3) {l : List (List Int)} (hl : ∀ p ∈ l, p.length = n) (b : Bn l) : ∀ p ∈ l, Sm p := fun p hp => ⟨by rw [hl p hp]; exact n3, b p hp⟩
theorem B60.bn {l : List (List Int)} (b : B60 l) : Bn l := fun p hp v hv => Nat.lt_trans (b p hp v hv) (by decide)
theorem shown {n : Nat} {s h : List (List Int)} (c : Pc n s h) (b : Bn (s ++ h)) (l : s.length + h.length ≤ 2000) : m_show_picture (pic n s h) = some (shp n s h) := by
  have n3 : n ≤ 3 := by have := c.two; omega
  exact shp_ok n3 (Bn.sm n3 c.s fun p hp => b p (List.mem_append_left _ hp)) (Bn.sm n3 c.h fun p hp => b p (List.mem_append_right _ hp)) (by omega) (by omega)
theorem joined_same {n : Nat} {s h s2 h2 : List (List Int)} (q1 : Q n s h) (q2 : Q n s2 h2) (l1 : s.length + h.length ≤ 200) (l2 : s2.length + h2.length ≤ 200) : ∃ r, m_joined (pic n s h) (pic n s2 h2) = some r ∧ m_joined (pic n (srtT s) (srtT h)) (pic n (srtT s2) (srtT h2)) = some r ∧ ∀ t, r = .inl t → Asc t := by
  have m1 : ∀ p, p ∈ srtT s ↔ p ∈ s := fun p => (srtT_perm s).mem_iff
  have m2 : ∀ p, p ∈ srtT h ↔ p ∈ h := fun p => (srtT_perm h).mem_iff
  have m3 : ∀ p, p ∈ srtT s2 ↔ p ∈ s2 := fun p => (srtT_perm s2).mem_iff
  have m4 : ∀ p, p ∈ srtT h2 ↔ p ∈ h2 := fun p => (srtT_perm h2).mem_iff
  have z1 : (srtT s).length = s.length := (srtT_perm s).length_eq
  have z2 : (srtT h).length = h.length := (srtT_perm h).length_eq
  have z3 : (srtT s2).length = s2.length := (srtT_perm s2).length_eq
  have z4 : (srtT h2).length = h2.length := (srtT_perm h2).length_eq
  by_cases nb : ∀ p, ¬ (p ∈ s ∧ p ∈ h2 ∨ p ∈ h ∧ p ∈ s2)
  · obtain ⟨S, H, e1, c1, a1, b1, l3⟩ := or_ok q1.c q2.c (by omega) (by omega) nb
    obtain ⟨S', H', e2, c2, a2, b2, l4⟩ := or_ok q1.srt.c q2.srt.c (by omega) (by omega) fun p => by rw [m1, m2, m3, m4]; exact nb p
    have pS : S'.Perm S := perm_of (List.nodup_append.mp c2.nd).1 (List.nodup_append.mp c1.nd).1 fun p => by rw [a1, a2, m1, m3]
    have pH : H'.Perm H := perm_of (List.nodup_append.mp c2.nd).2.1 (List.nodup_append.mp c1.nd).2.1 fun p => by rw [b1, b2, m2, m4]
    have bS : Bn (S ++ H) := fun p hp => by
      rcases List.mem_append.mp hp with hp | hp
      · rcases (a1 p).mp hp with hp | hp
        · exact q1.bs.bn p hp
        · exact q2.bs.bn p hp
      · rcases (b1 p).mp hp with hp | hp
        · exact q1.bh.bn p hp
        · exact q2.bh.bn p hp
    have bS' : Bn (S' ++ H') := fun p hp => bS p ((pS.append pH).mem_iff.mp hp)
    refine ⟨.inl (shp n S H), joined_ok e1 (shown c1 bS (by omega)), ?_, fun t ht => ?_⟩
    · rw [← shp_perm pS pH]
      exact joined_ok e2 (shown c2 bS' (by omega))
    · cases ht
      exact shp_asc
  · obtain ⟨p0, hp0⟩ : ∃ p, p ∈ s ∧ p ∈ h2 ∨ p ∈ h ∧ p ∈ s2 := Classical.byContradiction fun z => nb fun p hp => z ⟨p, hp⟩
    have mA : ∀ q, q ∈ (s ++ h).filter (bad s h s2 h2) ↔ q ∈ s ∧ q ∈ h2 ∨ q ∈ h ∧ q ∈ s2 := fun q => by
      rw [List.mem_filter]
      unfold bad
      rw [decide_eq_true_eq, List.mem_append]
      exact ⟨fun z => z.2, fun z => ⟨z.elim (fun z => .inl z.1) (fun z => .inr z.1), z⟩⟩
    have nA : ((s ++ h).filter (bad s h s2 h2)).Nodup := q1.c.nd.sublist List.filter_sublist
    obtain ⟨p, hp⟩ : ∃ p, (srtT ((s ++ h).filter (bad s h s2 h2))).head? = some p := by
      cases g : srtT ((s ++ h).filter (bad s h s2 h2)) with
      | nil =>
        have := (srtT_perm _).mem_iff.mpr ((mA p0).mpr hp0)
        rw [g] at this
        cases this
      | cons a b => exact ⟨a, rfl⟩
    refine ⟨.inr p, joined_bad (or_bad q1.c q2.c (by omega) nA mA hp), joined_bad (or_bad q1.srt.c q2.srt.c (by omega) nA (fun q => ?_) hp), fun t ht => by cases ht⟩
    rw [mA, m1, m2, m3, m4]
theorem not_mem_srt (s2 h2 : List (List Int)) : (fun p : List Int => !decide (p ∈ srtT s2 ++ srtT h2)) = fun p => !decide (p ∈ s2 ++ h2) := by
  funext p
  have : p ∈ srtT s2 ++ srtT h2 ↔ p ∈ s2 ++ h2 := by rw [List.mem_append, List.mem_append, (srtT_perm s2).mem_iff, (srtT_perm h2).mem_iff]
  rw [decide_eq_decide.mpr this]
theorem mn_bd {b : Nat} {l : List (List Int)} (h : ∀ p ∈ l, ∀ v ∈ p, v.natAbs < 10 ^ b) (k : Nat) : (mn l k).natAbs < 10 ^ b := by
  have z : 0 < 10 ^ b := Nat.pow_pos (by decide)
  by_cases ne : l = []
  · subst ne
    have : mn [] k = 0 := rfl
    rw [this]
    exact z
  · obtain ⟨_, ⟨p, hp, e⟩, _⟩ := mn_spec ne k
    rw [← e]
    by_cases q : k < p.length
    · have : p.getD k 0 = p[k] := by simp [q]
      rw [this]
      exact h p hp _ (List.getElem_mem _)
    · have : p.getD k 0 = 0 := by simp [show p.length ≤ k by omega]
      rw [this]
      exact z
theorem bk_bd {n b : Nat} {l : List (List Int)} (h : ∀ p ∈ l, ∀ v ∈ p, v.natAbs < 10 ^ b) : ∀ v ∈ bk n l, v.natAbs < 10 ^ b := fun v hv => by
  unfold bk at hv
  obtain ⟨k, _, rfl⟩ := List.mem_map.mp hv
  have := mn_bd h k
  omega
theorem moved_bn {l l' : List (List Int)} {v : List Int} (b : B60 l) (bv : ∀ x ∈ v, x.natAbs < 10 ^ 60) (p : l'.Perm (l.map fun p => pl p v)) : Bn l' := fun q hq x hx => by
  obtain ⟨r, hr, rfl⟩ := List.mem_map.mp (p.mem_iff.mp hq)
  have := pl_bd (C := 10 ^ 60) (D := 10 ^ 60) (fun x hx => Nat.le_of_lt (b r hr x hx)) (fun x hx => Nat.le_of_lt (bv x hx)) x hx
  exact Nat.lt_of_le_of_lt this (by decide)
theorem bn_app {s h : List (List Int)} (a : Bn s) (b : Bn h) : Bn (s ++ h) := fun p hp => (List.mem_append.mp hp).elim (a p) (b p)
theorem bn_perm {l m : List (List Int)} (p : l.Perm m) (b : Bn m) : Bn l := fun q hq => b q (p.mem_iff.mp hq)
theorem bn_filter {l : List (List Int)} (f : List Int → Bool) (b : Bn l) : Bn (l.filter f) := fun q hq => b q (List.mem_filter.mp hq).1
theorem shp_inj {n : Nat} {s h s2 h2 : List (List Int)} (q1 : Q n s h) (q2 : Q n s2 h2) : decide (shp n s h = shp n s2 h2) = (decide (srtT s = srtT s2) && decide (srtT h = srtT h2)) := by
  by_cases e : shp n s h = shp n s2 h2
  · rw [decide_eq_true e]
    have r1 := q1.read
    rw [e, q2.read] at r1
    injection r1 with r1
    injection r1 with r1
    have a1 : srtT (srtT s2) = srtT (srtT s) := congrArg (fun x : PT81 => x.2.2.1) r1
    have a2 : srtT (srtT h2) = srtT (srtT h) := congrArg (fun x : PT81 => x.2.2.2) r1
    rw [srt_idem, srt_idem] at a1 a2
    rw [decide_eq_true a1.symm, decide_eq_true a2.symm]
    rfl
  · rw [decide_eq_false e]
    by_cases a1 : srtT s = srtT s2
    · by_cases a2 : srtT h = srtT h2
      · exact absurd (by unfold shp sps; rw [a1, a2]) e
      · rw [decide_eq_false a2, Bool.and_false]
    · rw [decide_eq_false a1]
      rfl
theorem pair_ok {n : Nat} {s h s2 h2 R : List (List Int)} {v : List Int} (q1 : Q n s h) (q2 : Q n s2 h2) (l1 : s.length + h.length ≤ 200) (l2 : s2.length + h2.length ≤ 200) (kp : Kp n R) (lv : v.length = n) (bv : ∀ x ∈ v, x.natAbs < 10 ^ 60) : m_pair_right (pic n s h) (pic n s2 h2) R v = some true := by
  have n3 := q1.n3
  obtain ⟨r, j1, j2, ja⟩ := joined_same q1 q2 l1 l2
  have jn := neJ r ja
  obtain ⟨S, H, u1, c1, p1, p2⟩ := sub_ok (s2 := s2) (h2 := h2) q1.c
  obtain ⟨S', H', u2, c2, p3, p4⟩ := sub_ok (s2 := srtT s2) (h2 := srtT h2) q1.srt.c
  obtain ⟨S2, H2, u3, c3, p5, p6⟩ := sub_ok (s2 := s2) (h2 := h2) q1.srt.c
  obtain ⟨S3, H3, u4, c4, p7, p8⟩ := sub_ok (s2 := srtT s2) (h2 := srtT h2) q1.c
  rw [not_mem_srt] at p3 p4 p7 p8
  have f1 : ∀ f : List Int → Bool, ((srtT s).filter f).Perm (s.filter f) := fun f => (srtT_perm s).filter f
  have f2 : ∀ f : List Int → Bool, ((srtT h).filter f).Perm (h.filter f) := fun f => (srtT_perm h).filter f
  have g1 : S'.Perm S := (p3.trans (f1 _)).trans p1.symm
  have g2 : H'.Perm H := (p4.trans (f2 _)).trans p2.symm
  have g3 : S2.Perm S3 := (p5.trans (f1 _)).trans p7.symm
  have g4 : H2.Perm H3 := (p6.trans (f2 _)).trans p8.symm
  have bSH : Bn (S ++ H) := bn_app (bn_perm p1 (bn_filter _ q1.bs.bn)) (bn_perm p2 (bn_filter _ q1.bh.bn))
  have lSH : S.length + H.length ≤ 200 := by
    have a := p1.length_eq
    have b := p2.length_eq
    have := List.length_filter_le (fun p => !decide (p ∈ s2 ++ h2)) s
    have := List.length_filter_le (fun p => !decide (p ∈ s2 ++ h2)) h
    omega
  have w1 : m_show_picture (pic n S H) = some (shp n S H) := shown c1 bSH (by omega)
  have w2 : m_show_picture (pic n S' H') = some (shp n S H) := by
    rw [← shp_perm g1 g2]
    exact shown c2 (bn_perm (g1.append g2) bSH) (by have := g1.length_eq; have := g2.length_eq; omega)
  have w3 : m_Picture___eq__ (pic n S2 H2) (pic n S3 H3) = some true := eq_same g3 g4
  obtain ⟨A, B, x1, d1, y1, y2⟩ := shifted_perm q1.c lv
  obtain ⟨A', B', x2, d2, y3, y4⟩ := shifted_perm q1.srt.c lv
  have h1 : A'.Perm A := (y3.trans ((srtT_perm s).map _)).trans y1.symm
  have h3 : B'.Perm B := (y4.trans ((srtT_perm h).map _)).trans y2.symm
  have bAB : Bn (A ++ B) := bn_app (moved_bn q1.bs bv y1) (moved_bn q1.bh bv y2)
  have lA : A.length = s.length := by rw [y1.length_eq, List.length_map]
  have lB : B.length = h.length := by rw [y2.length_eq, List.length_map]
  have w4 : m_show_picture (pic n A B) = some (shp n A B) := shown d1 bAB (by omega)
  have w5 : m_show_picture (pic n A' B') = some (shp n A B) := by
    rw [← shp_perm h1 h3]
    exact shown d2 (bn_perm (h1.append h3) bAB) (by have := h1.length_eq; have := h3.length_eq; omega)
  obtain ⟨x3, d3⟩ := mapped_ok q1.c kp
  obtain ⟨x4, d4⟩ := mapped_ok q1.srt.c kp
  rw [srt_idem, srt_idem] at x4
  have w6 : m_Picture___eq__ (pic n ((srtT s).map (ap R)) ((srtT h).map (ap R))) (pic n ((srtT s).map (ap R)) ((srtT h).map (ap R))) = some true := eq_same (.refl _) (.refl _)
  obtain ⟨L, M, x5, d5, y5, y6⟩ := least_ok q2.c
  obtain ⟨L', M', x6, d6, y7, y8⟩ := least_ok q2.srt.c
  have bke : bk n (srtT s2 ++ srtT h2) = bk n (s2 ++ h2) := bk_perm ((srtT_perm s2).append (srtT_perm h2))
  rw [bke] at y7 y8
  have h5 : L'.Perm L := (y7.trans ((srtT_perm s2).map _)).trans y5.symm
  have h6 : M'.Perm M := (y8.trans ((srtT_perm h2).map _)).trans y6.symm
  have bb : ∀ x ∈ bk n (s2 ++ h2), x.natAbs < 10 ^ 60 := bk_bd fun p hp => (List.mem_append.mp hp).elim (q2.bs p) (q2.bh p)
  have bLM : Bn (L ++ M) := bn_app (moved_bn q2.bs bb y5) (moved_bn q2.bh bb y6)
  have lL : L.length = s2.length := by rw [y5.length_eq, List.length_map]
  have lM : M.length = h2.length := by rw [y6.length_eq, List.length_map]
  have w7 : m_show_picture (pic n L M) = some (shp n L M) := shown d5 bLM (by omega)
  have w8 : m_show_picture (pic n L' M') = some (shp n L M) := by
    rw [← shp_perm h5 h6]
    exact shown d6 (bn_perm (h5.append h6) bLM) (by have := h5.length_eq; have := h6.length_eq; omega)
  have eq1 : m_Picture___eq__ (pic n s h) (pic n s2 h2) = some (decide (srtT s = srtT s2) && decide (srtT h = srtT h2)) := eq_ok
  have eq2 : m_Picture___eq__ (pic n (srtT s) (srtT h)) (pic n (srtT s2) (srtT h2)) = some (decide (srtT s = srtT s2) && decide (srtT h = srtT h2)) := by
    rw [eq_ok, srt_idem, srt_idem, srt_idem, srt_idem]
  have inj := shp_inj q1 q2
  unfold m_pair_right
  rw [again_ok q1, again_ok q2, oP2_s, bind_s]
  dsimp only
  have jn' : o2 neU (Option.map (Sum.elim PyData.str (fun (l : (List Int)) => PyData.tuple (l.map PyData.int))) (some r)) (Option.map (Sum.elim PyData.str (fun (l : (List Int)) => PyData.tuple (l.map PyData.int))) (some r)) = some false := jn
  simp only [Option.isNone_some, oOr_f, o2_s, j1, j2, jn', bind_s, Bool.false_eq_true, if_false, u1, u2, u3, u4, o1_s, w1, w2, w3, neG_s, decide_true, Bool.not_true, oNot_s, x1, x2, w4, w5, x3, x4, w6, x5, x6, w7, w8, q1.show, q2.show, eq1, eq2, eqG_s, inj, oAnd_t]
/-! k81: the case -/
theorem Bd.q {n : Nat} {s h : List (List Int)} (c : Pc n s h) (b : ∀ p ∈ s ++ h, ∀ v ∈ p, v.natAbs < 10 ^ 59) (l1 : s.length ≤ 2000) (l2 : h.length ≤ 2000) : Q n s h := ⟨c, fun p hp v hv => Nat.lt_trans (b p (List.mem_append_left _ hp) v hv) (by decide), fun p hp v hv => Nat.lt_trans (b p (List.mem_append_right _ hp) v hv) (by decide), l1, l2⟩
theorem second_pc {n : Nat} {lit dim left R : List (List Int)} (c : Pc n lit dim) {right : List (List Int)} (c2 : Pc n left right) (hR : R.Sublist dim) (l7 : lit.length ≤ 7) (d7 : dim.length ≤ 7) (f7 : left.length ≤ 7) : Pc n (lit ++ left.filter fun p => !decide (p ∈ lit ++ dim)) R := by
  have lf := List.length_filter_le (fun p => !decide (p ∈ lit ++ dim)) left
  have lr := hR.length_le
  have out : ∀ x ∈ left.filter (fun p => !decide (p ∈ lit ++ dim)), x ∉ lit ∧ x ∉ dim := fun x hx => by
    have := (List.mem_filter.mp hx).2
    simpa [not_or] using this
  have nd := List.nodup_append.mp c.nd
  have nl : left.Nodup := (List.nodup_append.mp c2.nd).1
  refine ⟨c.two, fun p hp => ?_, fun p hp => c.h p (hR.subset hp), ?_, by rw [List.length_append]; omega⟩
  · rcases List.mem_append.mp hp with hp | hp
    · exact c.s p hp
    · exact c2.s p (List.mem_filter.mp hp).1
  · refine List.nodup_append.mpr ⟨List.nodup_append.mpr ⟨nd.1, nl.sublist List.filter_sublist, fun a ha b hb e => (out b hb).1 (e ▸ ha)⟩, nd.2.1.sublist hR, fun a ha b hb e => ?_⟩
    rcases List.mem_append.mp ha with ha | ha
    · exact nd.2.2 a ha b (hR.subset hb) e
    · exact (out a ha).2 (e ▸ hR.subset hb)
theorem right_ok {t : List Int} (h : Ok t) : W (m_right t) fun r => r.1 = true := by
  have z := sizeLine_eq
  unfold m_right
  obtain ⟨x1, t1, e1, k1, a1, b1⟩ := sip_ok h (m := 2) (by decide) (by decide)
  obtain ⟨n, hn⟩ : ∃ n : Nat, 2 + x1 = (n : Int) := ⟨(2 + x1).toNat, by omega⟩
  have two : n = 2 ∨ n = 3 := by omega
  have n3 : n ≤ 3 := by omega
  obtain ⟨⟨⟨lit, dim⟩, t2⟩, e2, ⟨⟨c, bd⟩, l7, d7⟩, k2⟩ := parts_okB k1 two (most := 7) (by decide)
  have c : Pc n lit dim := c
  have bd : Bd (lit ++ dim) := bd
  have l7 : lit.length ≤ 7 := l7
  have d7 : dim.length ≤ 7 := d7
  have k2 : Ok t2 := k2
  have e2 : m_parts t1 (n : Int) 7 = some ((lit, dim), t2) := e2
  obtain ⟨⟨⟨left, right⟩, t3⟩, e3, ⟨⟨c2, bd2⟩, f7, r7⟩, k3⟩ := parts_okB k2 two (most := 7) (by decide)
  have c2 : Pc n left right := c2
  have bd2 : Bd (left ++ right) := bd2
  have f7 : left.length ≤ 7 := f7
  have r7 : right.length ≤ 7 := r7
  have k3 : Ok t3 := k3
  have e3 : m_parts t2 (n : Int) 7 = some ((left, right), t3) := e3
  have st : ((s2 (fun a b s => sK s (addG a b)) (sP (some 2) t) fun spring_here => (s1 (fun a0 s => m_sip s a0) (sP (some 2) spring_here)))) = some ((n : Int), t1) := by
    simp only [s2_s, sP_s, sC_s, s1_s, e1, sK_s, addG_s, hn]
  rw [st, bind_s]
  dsimp only
  have st2 : (s2 (fun a0 a1 s => m_parts s a0 a1) (sP (some (n : Int)) t1) (fun spring_here => (sP (some 7) spring_here))) = some ((lit, dim), t2) := e2
  rw [st2, bind_s]
  dsimp only
  have st3 : (s2 (fun a0 a1 s => m_parts s a0 a1) (sP (some (n : Int)) t2) (fun spring_here => (sP (some 7) spring_here))) = some ((left, right), t3) := e3
  rw [st3, bind_s]
  dsimp only
  obtain ⟨x4, t4, e4, k4, a4, b4⟩ := sip_ok k3 (m := 2) (by decide) (by decide)
  have st4 : (s2 (fun a b s => sK s (eqG a b)) (s1 (fun a0 s => m_sip s a0) (sP (some 2) t3)) fun spring_here => (sP (some 0) spring_here)) = some (decide (x4 = 0), t4) := by
    simp only [sP_s, s1_s, e4, s2_s, sC_s, eqG_s, sK_s]
  rw [st4, bind_s]
  dsimp only
  refine W_then (P := fun r : List (List Int) × List (List Int) × List Int => (Q n r.1 r.2.1 ∧ r.1.length + r.2.1.length ≤ 200) ∧ Ok r.2.2) ?_ fun ⟨L, R, t5⟩ ⟨⟨q2, l2⟩, k5⟩ => ?_
  · by_cases c0 : x4 = 0
    · rw [decide_eq_true c0, if_pos rfl]
      have cat : catG lit dim = some (lit ++ dim) := catG_s (by omega)
      have f1 := notin_ok (l := left) (m := lit ++ dim) (by omega)
      have f1' : o1 (oLc (fun (spot : List Int) => (o2 notInDG (some spot) (o2 catG (some lit) (some dim)))) (fun (spot : List Int) => (some spot))) (some left) = some (left.filter fun p => !decide (p ∈ lit ++ dim)) := by
        simp only [o1_s, o2_s, cat]
        exact f1
      have lf := List.length_filter_le (fun p => !decide (p ∈ lit ++ dim)) left
      rw [f1', o2_s, catG_s (by omega), bind_s]
      have coin : ∀ (a : List Int) (s : List Int), Ok s → W (s2 (fun a b s => sK s (gtG a b)) (s1 (fun a0 s => m_sip s a0) (sP (some 8) s)) fun spring_here => (sP (some 0) spring_here)) fun r => Ok r.2 := fun _ s k => by
        obtain ⟨x, u1, e1, k1, _⟩ := sip_ok k (m := 8) (by decide) (by decide)
        simp only [sP_s, s1_s, e1, s2_s, sC_s, gtG_s, sK_s]
        exact W_some k1
      obtain ⟨⟨R, t5⟩, e5, hR, k5⟩ := sMapT_sub (f := fun (spot : List Int) spring_here => (sP (some spot) spring_here)) (fun _ _ => rfl) coin dim t4 k4
      have hR : R.Sublist dim := hR
      have j1 : ((some dim).bind fun l => sLcT (fun (spot : (List Int)) => fun spring_here => (s2 (fun a b s => sK s (gtG a b)) (s1 (fun a0 s => m_sip s a0) (sP (some 8) spring_here)) fun spring_here => (sP (some 0) spring_here))) (fun (spot : (List Int)) => fun spring_here => (sP (some spot) spring_here)) l t4) = some (R, t5) := by
        rw [bind_s]
        unfold sLcT
        rw [if_pos (by omega), e5]
      rw [j1, bind_s]
      have lr := hR.length_le
      refine W_some ⟨⟨Bd.q (second_pc c c2 hR l7 d7 f7) (fun p hp => ?_) (by show (lit ++ _).length ≤ _; rw [List.length_append]; omega) (by show R.length ≤ _; omega), by show (lit ++ _).length + R.length ≤ _; rw [List.length_append]; omega⟩, k5⟩
      rcases List.mem_append.mp hp with hp | hp
      · rcases List.mem_append.mp hp with hp | hp
        · exact bd p (List.mem_append_left _ hp)
        · exact bd2 p (List.mem_append_left _ (List.mem_filter.mp hp).1)
      · exact bd p (List.mem_append_right _ (hR.subset hp))
    · rw [decide_eq_false c0, if_neg Bool.false_ne_true]
      exact W_some ⟨⟨Bd.q c2 bd2 (by show left.length ≤ _; omega) (by show right.length ≤ _; omega), by show left.length + right.length ≤ _; omega⟩, k4⟩
  have q2 : Q n L R := q2
  have l2 : L.length + R.length ≤ 200 := l2
  have k5 : Ok t5 := k5
  have q1 : Q n lit dim := Bd.q c bd (by omega) (by omega)
  dsimp only
  rw [o3_s, pic_ok c, bind_s, o3_s, pic_ok q2.c, bind_s]
  obtain ⟨⟨G0, t6⟩, e6, gR, k6⟩ := matrix_ok k5 two
  have gR : G n 333 G0 := gR
  have k6 : Ok t6 := k6
  have kp := gR.kp (by decide)
  have st6 : (s1 (fun a0 s => m_matrix s a0) (sP (some (n : Int)) t5)) = some (G0, t6) := by rw [sP_s, s1_s, e6]
  rw [st6, bind_s]
  dsimp only
  rw [o1_s, rngG_s (n := (n : Int)) (by omega) (by omega), bind_s]
  refine W_then (W_slcR (Q := fun r : List Int × List Int => (r.1.length = n ∧ ∀ v ∈ r.1, v.natAbs ≤ 10 ^ 39) ∧ Ok r.2) (fun _ g => Ok g) (fun v => v.natAbs ≤ 10 ^ 39) (by omega) k6 (fun i g _ hg => ?_) fun xs g' hl hb hk => ⟨⟨hl, hb⟩, hk⟩) fun ⟨v, t7⟩ ⟨⟨lv, bv⟩, k7⟩ => ?_
  · obtain ⟨x, t, e, k, z0, z1⟩ := sip_ok hg (m := 3) (by decide) (by decide)
    obtain ⟨w, f3, w0, w1⟩ : ∃ w, ixG [(2 : Int), 9, 10 ^ 39] x = some w ∧ 0 < w ∧ w ≤ 10 ^ 39 := by
      obtain rfl | rfl | rfl : x = 0 ∨ x = 1 ∨ x = 2 := by omega
      all_goals exact ⟨_, rfl, by decide, by decide⟩
    obtain ⟨y, u, e5, k5, hy⟩ := far_ok k w0
    simp only [sP_s, s1_s, e, s2_s, sC_s, sK_s, f3, e5]
    exact W_some ⟨by show y.natAbs ≤ 10 ^ 39; omega, k5⟩
  have lv : v.length = n := lv
  have bv : ∀ x ∈ v, x.natAbs < 10 ^ 60 := fun x hx => Nat.lt_of_le_of_lt (bv x hx) (by decide)
  have k7 : Ok t7 := k7
  dsimp only
  rw [pair_ok q1 q2 (by omega) l2 kp lv bv, pair_ok q2 q1 l2 (by omega) kp lv bv]
  rw [oNot_s, Bool.not_true, oOr_f, bind_s, if_neg Bool.false_ne_true]
  obtain ⟨⟨⟨a, b⟩, t8⟩, e8, ln, k8⟩ := line_ok k7 two
  have ln : LN n a b := ln
  have st8 : (s1 (fun a0 s => m_line_ s a0) (sP (some (n : Int)) t7)) = some ((a, b), t8) := by rw [sP_s, s1_s, e8]
  rw [st8, bind_s]
  dsimp only
  obtain ⟨sa, sb⟩ := ln.sm n3
  obtain ⟨w1, w2⟩ := shl_ok sa sb
  rw [mkL_ok two ln.la ln.lb ln.g, bind_s, okX, bind_s, w1, bind_s, read_line_back two ln, bind_s, okX]
  have le : m_Line___eq__ (a, b) (a, b) = some true := by
    unfold m_Line___eq__
    simp only [bind_s, Bool.not_true, Bool.false_eq_true, if_false, o2_s, eqDG_s, decide_true, oAnd_t]
  obtain ⟨v1, v2, v3, v4⟩ := wl_ok n3 (q1.bs.sm n3 c.s) (q1.bh.sm n3 c.h) q1.ls q1.lh
  have u1 : m_unread 0 (shl a b) = some true := un0 (place_no (by omega) shl_32)
  have u2 : m_unread 1 (shl a b) = some true := un1 (by omega) (split_blank a b) (.inr ⟨a, _, rfl⟩)
  have u3 : m_unread 0 (shp n lit dim) = some true := un0 (place_no (by omega) shp_32)
  have u4 : m_unread 2 (shp n lit dim) = some true := un2 (by omega) shp_no98
  obtain ⟨p1, p2⟩ := show_ok sa
  have u5 : m_unread 1 (sp a) = some true := un1 (by omega) (split_place a) (.inl (by simp))
  have u6 : m_unread 2 (sp a) = some true := un2 (by omega) fun h => by have := sp_sign h; omega
  simp only [o2_s, le, oNot_s, Bool.not_true, oOr_f, o1_s, w1, neG_s, decide_true, bind_s, Bool.false_eq_true, if_false, u1, u2, q1.show, u3, u4, p1, u5, u6, oAnd_t]
  exact W_some rfl
theorem law_right {t : List Int} (h : Ok t) : W (m_right t) fun r => r.1 = true := right_ok h
theorem law_true (s : List Int) (h : s.length ≤ 63) : m_law s = some true := by
  refine W_is ?_
  unfold m_law
  have e : ∃ n, repG [(0 : Int)] (b2i (decide ((s.length : Int) = 0))) = some n ∧ n.length ≤ 1 := by
    by_cases q : (s.length : Int) = 0
    · rw [decide_eq_true q]
      exact ⟨_, rfl, by decide⟩
    · rw [decide_eq_false q]
      exact ⟨_, rfl, by decide⟩
  obtain ⟨n, e, hn⟩ := e
  have c : cut s none (some 8) = s.take 8 := cut_to (n := 8)
  have lt : (s.take 8).length ≤ 8 := by simp; omega
  simp only [oCut_s, e, c, o2_s, catG_s (a := s.take 8) (b := n) (by omega), bind_s, o1_s]
  rw [rngG_s (by omega) (by simp; omega)]
  refine W_beq rfl (W_bind (W_all (fun p hp => ?_) (W_some rfl)))
  have hp := rngL_mem hp
  rw [ixG_at hp.1 hp.2]
  obtain ⟨t, e, k⟩ := spring_ok ((s.take 8 ++ n)[p.toNat]'(by omega)) p
  obtain ⟨⟨b, r⟩, e2, rfl⟩ := law_right k
  simp only [o2_s, e, bind_s, e2, oNot_s]
  exact W_some rfl
end Pl

set_option maxHeartbeats 4000000
namespace Wk
open PySem PySem.Spec PyProof.Rows L2 Mw Mi
open Evl (Ex)
abbrev pwX := PySem.Challenge.pw_seenposts_k81_whole_texts_both_ways
def topS (i : Nat) : Stmt := pwX.main.body.getD i (.Pass ⟨0, 0, 0, 0⟩)
abbrev FnP (K : PySem.W.Frag) (x : PySem.Str) (st : Stmt) (f : Addr) (fd : FuncData) : Prop := FunD K x x (defArgs st) (defBody st) (defScope st) [] [] f fd
structure Txt (mg : PySem.Str → Option Value) : Prop where
  b_abs : mg "abs" = none
  b_int : mg "int" = none
  b_isinstance : mg "isinstance" = none
  b_len : mg "len" = none
  b_list : mg "list" = none
  b_max : mg "max" = none
  b_min : mg "min" = none
  b_range : mg "range" = none
  b_sorted : mg "sorted" = none
  b_str : mg "str" = none
  b_sum : mg "sum" = none
  b_tuple : mg "tuple" = none
def clsS (i j : Nat) : Stmt := match topS i with
  | .ClassDef _ _ _ b _ _ _ _ _ _ _ => b.getD j (.Pass ⟨0, 0, 0, 0⟩)
  | _ => .Pass ⟨0, 0, 0, 0⟩
abbrev FnQ (K : PySem.W.Frag) (x q : PySem.Str) (st : Stmt) (f : Addr) (fd : FuncData) : Prop := FunD K x q (defArgs st) (defBody st) (defScope st) [] [] f fd
abbrev erL : List PySem.Str := ["PostError", "InvalidSize", "InvalidPlace", "DoublePlace", "InvalidMatrix", "InvalidStep", "InvalidNumber", "Conflict", "Unreadable"]
theorem er_InvalidSize : ("InvalidSize" : PySem.Str) ∈ erL := by decide
theorem er_InvalidPlace : ("InvalidPlace" : PySem.Str) ∈ erL := by decide
theorem er_InvalidStep : ("InvalidStep" : PySem.Str) ∈ erL := by decide
theorem er_Conflict : ("Conflict" : PySem.Str) ∈ erL := by decide
theorem er_Unreadable : ("Unreadable" : PySem.Str) ∈ erL := by decide
abbrev s_ei : Stmt := clsS 6 0
abbrev N_ei : List PySem.Str := ["self", "value"]
theorem sc_ei : FnScope N_ei ["self", "value"] (defScope s_ei) := ⟨rfl, rfl, rfl, by decide +kernel, rfl, by decide +kernel, by decide +kernel⟩
theorem ok_ei {P : Program} {w : World} {K : PySem.W.Frag} {mg : PySem.Str → Option Value} {base : Heap} (E_ : ErrF K mg erL) {f : Addr} {fd : FuncData} (Fn : FnQ K "__init__" "PostError.__init__" s_ei f fd) : FnOk P w K mg base CX0 1 f fd ["self", "value"] (spEI K erL) :=
  Fn.ok sc_ei (fun vs H Q E h => spEI_len h) fun cdv A outer s H vs Q E hr h => ⟨_, PSs.nox (pss_one (ps_ost (pv 0) (pv 1))), ei_body E_ (fun _ _ q => q) h⟩
structure ClsF (K : PySem.W.Frag) (mg : PySem.Str → Option Value) : Prop where
  s_DIGITS : ∃ t, mg "DIGITS" = some (.str "0123456789" t)
  cl_Line : Cls K (He.ga K "Line")
  g_Line : mg "Line" = some (.ref (He.ga K "Line"))
  in_Line : InsC K (He.ga K "Line")
  kit_Line : KitD K (He.ga K "Line")
  na_Line_origin : NoAttr K (He.ga K "Line") "origin"
  na_Line_stride : NoAttr K (He.ga K "Line") "stride"
  cl_Picture : Cls K (He.ga K "Picture")
  g_Picture : mg "Picture" = some (.ref (He.ga K "Picture"))
  in_Picture : InsC K (He.ga K "Picture")
  kit_Picture : KitD K (He.ga K "Picture")
  na_Picture_dimension : NoAttr K (He.ga K "Picture") "dimension"
  na_Picture_words : NoAttr K (He.ga K "Picture") "words"
  na_Picture_seen_places : NoAttr K (He.ga K "Picture") "seen_places"
  na_Picture_hidden_places : NoAttr K (He.ga K "Picture") "hidden_places"
abbrev s_Picture___init__ : Stmt := clsS 36 0
abbrev N_Picture___init__ : List PySem.Str := ["self", "size", "seen", "hidden", "words", "word", "places", "place"]
theorem sc_Picture___init__ : FnScope N_Picture___init__ ["self", "size", "seen", "hidden"] (defScope s_Picture___init__) := ⟨rfl, rfl, rfl, by decide +kernel, rfl, by decide +kernel, by decide +kernel⟩
def sp_Picture___init__ (K : PySem.W.Frag) : Sp := (MPsp3 (fun z => (cO4 (He.ga K "Picture") "dimension" "words" "seen_places" "hidden_places" rInt (rDic rStr) (rLst (rTup K rInt)) (rLst (rTup K rInt))) z) rInt (rLst (rTup K rInt)) (rLst (rTup K rInt)) rNon m_Picture___init__)
theorem ok_Picture___init__ {P : Program} {w : World} {K : PySem.W.Frag} {mg : PySem.Str → Option Value} {base : Heap} (T : Txt mg) (L : ClsF K mg) (E_ : ErrF K mg erL) {f : Addr} {fd : FuncData} (Fn : FnQ K "__init__" "Picture.__init__" s_Picture___init__ f fd) : FnOk P w K mg base CX0 1 f fd ["self", "size", "seen", "hidden"] (sp_Picture___init__ K) := by
  refine Fn.ok sc_Picture___init__ (fun vs H Q E h => MPsp3_len h) (fun cdv A outer s H vs Q E hr h => ?_)
  obtain ⟨F, p_self, v_size, v_seen, v_hidden, self, size, seen, hidden, res, s_out, rfl, k, r_size, r_seen, r_hidden, hm, hQ⟩ := h
  generalize hc : Act.mk H F [p_self] = c at k hQ
  unfold m_Picture___init__ at hm
  refine ⟨_, PSs.nox (pss_cons (ps_if (pt_cmpR (op_notIn_seqK K rfl) (pv 1) (pe_tup (pa_cons pe_int (pa_cons pe_int pa_nil))) rfl) (pss_one ps_never) pss_nil) (pss_cons (ps_set (i := 4) sc_Picture___init__.nd rfl (Or.inl rfl) pe_dnewT) (pss_cons (ps_for PassesOwn.never rfl (pi_listK K rfl (pe_lst (pa_cons (pe_tup (pa_cons pe_str (pa_cons (pv 2) pa_nil))) (pa_cons (pe_tup (pa_cons pe_str (pa_cons (pv 3) pa_nil))) pa_nil)))) (pg_tup (by rfl) (pgs_cons (pg_name (i := 5) sc_Picture___init__.nd rfl (Or.inl rfl)) (pgs_cons (pg_name (i := 6) sc_Picture___init__.nd rfl (Or.inl rfl)) pgs_nil))) (pss_one (ps_for PassesOwn.never rfl (pi_listK K rfl (pv 6)) (pg_name (i := 7) sc_Picture___init__.nd rfl (Or.inl rfl)) (pss_cons (ps_if (pt_cmpR op_ne (pe_callB (call_len_seqK K rfl) (by rfl) T.b_len PySem.boot_len (pa_cons (pv 7) pa_nil)) (pv 1) (nomark _)) (pss_one ps_never) pss_nil) (pss_cons (ps_if (pt_cmp (pc_din (un1 hr) (pv 7) (pv 4))) (pss_one ps_never) pss_nil) (pss_one (ps_dput (un1 hr) (pv 4) (pv 7) (pv 5) (by rfl)))))))) (pss_cons (ps_fld (pv 0) (pv 1) (by rfl)) (pss_cons (ps_fld (pv 0) (pv 4) (by rfl)) (pss_cons (ps_fld (pv 0) (pe_callB (cr_sortedTIK K rfl) (by rfl) T.b_sorted (by decide +kernel) (pa_cons (pv 2) pa_nil)) (by rfl)) (pss_one (ps_fld (pv 0) (pe_callB (cr_sortedTIK K rfl) (by rfl) T.b_sorted (by decide +kernel) (pa_cons (pv 3) pa_nil)) (by rfl))))))))), ?_⟩
  show (_ : TS) _ [some (.ref p_self), some v_size, some v_seen, some v_hidden, none, none, none, none] _
  obtain ⟨b, hb, hm⟩ := bind_some hm
  refine q_ife (et_test (em_op vo_notInT (em_varf (i := 1) fl_int rfl r_size) (em_tup (K := K) (ea_cons em_int (ea_cons em_int ea_nil))))) hb k (fun eb F H e k => ?_) (fun eb F H e k => ?_)
  ·
    subst eb
    have hm := hT hm
    have r_seen := (rLst (rTup K rInt)).up e r_seen
    have r_hidden := (rLst (rTup K rInt)).up e r_hidden
    cases hm
  ·
    subst eb
    have hm := hF hm
    have r_seen := (rLst (rTup K rInt)).up e r_seen
    have r_hidden := (rLst (rTup K rInt)).up e r_hidden
    obtain ⟨words_n, hx, hm⟩ := bind_some hm
    have hx := Option.some.inj hx
    refine q_newD (rb := rStr) k fun p_words F H e k n_words => ?_
    rw [hx] at k
    obtain ⟨words, ez_⟩ : ∃ z, z = words_n := ⟨_, rfl⟩; subst ez_
    have k : Cov c F [(p_self, (cO4 (He.ga K "Picture") "dimension" "words" "seen_places" "hidden_places" rInt (rDic rStr) (rLst (rTup K rInt)) (rLst (rTup K rInt))) self), (p_words, cDic rStr words)] H := k
    show (_ : TS) _ [some (.ref p_self), some v_size, some v_seen, some v_hidden, some (.ref p_words), none, none, none] _
    have r_seen := (rLst (rTup K rInt)).up e r_seen
    have r_hidden := (rLst (rTup K rInt)).up e r_hidden
    obtain ⟨l_, hl, hm⟩ := bind_some hm
    obtain ⟨g1_, hf, hm⟩ := bind_some hm
    refine sq ?_
    refine a_for (ei_list ((ef_lst (ea_cons (em_tup2 (K := K) em_str (em_var (i := 2) rfl r_seen)) (ea_cons (em_tup2 (K := K) em_str (em_var (i := 3) rfl r_hidden)) ea_nil)))).em) hl k hf fun F H e k => ⟨fun g σ1 F1 H1 => ∃ w_place w_word w_places, σ1 = [some (.ref p_self), some v_size, some v_seen, some v_hidden, some (.ref p_words), w_word, w_places, w_place] ∧ Ex F F1 ∧ Cov c F1 [(p_self, (cO4 (He.ga K "Picture") "dimension" "words" "seen_places" "hidden_places" rInt (rDic rStr) (rLst (rTup K rInt)) (rLst (rTup K rInt))) self), (p_words, cDic rStr g)] H1, fun g => [(p_self, (cO4 (He.ga K "Picture") "dimension" "words" "seen_places" "hidden_places" rInt (rDic rStr) (rLst (rTup K rInt)) (rLst (rTup K rInt))) self), (p_words, cDic rStr g)], ?_, ?_, ?_, ?_⟩
    · exact ⟨_, _, _, rfl, Evl.Ex.refl _, k⟩
    · rintro g σ1 F1 H1 ⟨_, _, _, rfl, e1, k1⟩
      exact ⟨e1, k1⟩
    · rintro d v words g2 σ1 F1 H1 F H ⟨w_place, w_word, w_places, rfl, eL1, _⟩ e1 k rd hm
      have eL1 := eL1.trans e1
      have r_seen := (rLst (rTup K rInt)).up (e.trans eL1) r_seen
      have r_hidden := (rLst (rTup K rInt)).up (e.trans eL1) r_hidden
      obtain ⟨word, places⟩ := d
      obtain ⟨_, v_word, v_places, rfl, ht, r_word, r_places⟩ := rd
      refine gt2 (σ1 := [some (.ref p_self), some v_size, some v_seen, some v_hidden, some (.ref p_words), some v_word, some v_places, w_place]) (ext_ k.ex ht) rfl ?_
      obtain ⟨l_, hl, hm⟩ := bind_some hm
      obtain ⟨g1_, hf, hm⟩ := bind_some hm
      refine a_for (ei_list (em_var (i := 6) rfl r_places)) hl k hf fun F H e k => ⟨fun g σ1 F1 H1 => ∃ w_place, σ1 = [some (.ref p_self), some v_size, some v_seen, some v_hidden, some (.ref p_words), some v_word, some v_places, w_place] ∧ Ex F F1 ∧ Cov c F1 [(p_self, (cO4 (He.ga K "Picture") "dimension" "words" "seen_places" "hidden_places" rInt (rDic rStr) (rLst (rTup K rInt)) (rLst (rTup K rInt))) self), (p_words, cDic rStr g)] H1, fun g => [(p_self, (cO4 (He.ga K "Picture") "dimension" "words" "seen_places" "hidden_places" rInt (rDic rStr) (rLst (rTup K rInt)) (rLst (rTup K rInt))) self), (p_words, cDic rStr g)], ?_, ?_, ?_, ?_⟩
      · exact ⟨_, rfl, Evl.Ex.refl _, k⟩
      · rintro g σ1 F1 H1 ⟨_, rfl, e1, k1⟩
        exact ⟨e1, k1⟩
      · rintro d v words g2 σ1 F1 H1 F H ⟨w_place, rfl, eL2, _⟩ e1 k rd hm
        have eL2 := eL2.trans e1
        have r_seen := (rLst (rTup K rInt)).up (e.trans eL2) r_seen
        have r_hidden := (rLst (rTup K rInt)).up (e.trans eL2) r_hidden
        have r_places := (rLst (rTup K rInt)).up (e.trans eL2) r_places
        have eL1 := eL1.trans (e.trans eL2)
        obtain ⟨place, ez_⟩ : ∃ z, z = d := ⟨_, rfl⟩; subst ez_
        obtain ⟨v_place, ez_⟩ : ∃ z, z = v := ⟨_, rfl⟩; subst ez_
        have r_place := rd
        refine gn (σ1 := [some (.ref p_self), some v_size, some v_seen, some v_hidden, some (.ref p_words), some v_word, some v_places, some v_place]) rfl ?_
        obtain ⟨b, hb, hm⟩ := bind_some hm
        refine q_ife (et_test (em_op vo_neI (et_len (em_var (i := 7) rfl r_place)) (em_varf (i := 1) fl_int rfl r_size))) hb k (fun eb F H e k => ?_) (fun eb F H e k => ?_)
        ·
          subst eb
          have hm := hT hm
          have r_seen := (rLst (rTup K rInt)).up e r_seen
          have r_hidden := (rLst (rTup K rInt)).up e r_hidden
          have r_place := (rTup K rInt).up e r_place
          have r_places := (rLst (rTup K rInt)).up e r_places
          have eL1 := eL1.trans e
          have eL2 := eL2.trans e
          cases hm
        ·
          subst eb
          have hm := hF hm
          have r_seen := (rLst (rTup K rInt)).up e r_seen
          have r_hidden := (rLst (rTup K rInt)).up e r_hidden
          have r_place := (rTup K rInt).up e r_place
          have r_places := (rLst (rTup K rInt)).up e r_places
          have eL1 := eL1.trans e
          have eL2 := eL2.trans e
          obtain ⟨b, hb, hm⟩ := bind_some hm
          refine q_ife (et_B (em_din (em_var (i := 7) rfl r_place) (ed_cell (i := 4) (j := 1) rfl rfl))) hb k (fun eb F H e k => ?_) (fun eb F H e k => ?_)
          ·
            subst eb
            have hm := hT hm
            have r_seen := (rLst (rTup K rInt)).up e r_seen
            have r_hidden := (rLst (rTup K rInt)).up e r_hidden
            have r_place := (rTup K rInt).up e r_place
            have r_places := (rLst (rTup K rInt)).up e r_places
            have eL1 := eL1.trans e
            have eL2 := eL2.trans e
            cases hm
          ·
            subst eb
            have hm := hF hm
            have r_seen := (rLst (rTup K rInt)).up e r_seen
            have r_hidden := (rLst (rTup K rInt)).up e r_hidden
            have r_place := (rTup K rInt).up e r_place
            have r_places := (rLst (rTup K rInt)).up e r_places
            have eL1 := eL1.trans e
            have eL2 := eL2.trans e
            obtain ⟨val, hx, hm⟩ := bind_some hm
            obtain ⟨ix, hi, hm⟩ := bind_some hm
            obtain ⟨words_n, hs, hm⟩ := bind_some hm
            refine a_dput (i := 4) (j := 1) rfl rfl (em_varf (i := 5) fl_str rfl r_word) (em_var (i := 7) rfl r_place) hx hi hs k fun F H e k => ?_
            obtain ⟨words, ez_⟩ : ∃ z, z = words_n := ⟨_, rfl⟩; subst ez_
            have r_seen := (rLst (rTup K rInt)).up e r_seen
            have r_hidden := (rLst (rTup K rInt)).up e r_hidden
            have r_place := (rTup K rInt).up e r_place
            have r_places := (rLst (rTup K rInt)).up e r_places
            have eL1 := eL1.trans e
            have eL2 := eL2.trans e
            have k : Cov c F [(p_self, (cO4 (He.ga K "Picture") "dimension" "words" "seen_places" "hidden_places" rInt (rDic rStr) (rLst (rTup K rInt)) (rLst (rTup K rInt))) self), (p_words, cDic rStr words)] H := k
            have hm := Option.some.inj hm
            subst hm
            exact ⟨F, _, rfl, eL2, k⟩
      obtain ⟨words, ez_⟩ : ∃ z, z = g1_ := ⟨_, rfl⟩; subst ez_
      rintro σ1 F H ⟨w_place, rfl, e1, k⟩
      have r_seen := (rLst (rTup K rInt)).up (e.trans e1) r_seen
      have r_hidden := (rLst (rTup K rInt)).up (e.trans e1) r_hidden
      have r_places := (rLst (rTup K rInt)).up (e.trans e1) r_places
      have eL1 := eL1.trans (e.trans e1)
      refine nxh ?_
      have hm := Option.some.inj hm
      subst hm
      exact ⟨F, _, _, _, rfl, eL1, k⟩
    obtain ⟨words, ez_⟩ : ∃ z, z = g1_ := ⟨_, rfl⟩; subst ez_
    rintro σ1 F H ⟨w_place, w_word, w_places, rfl, e1, k⟩
    have r_seen := (rLst (rTup K rInt)).up (e.trans e1) r_seen
    have r_hidden := (rLst (rTup K rInt)).up (e.trans e1) r_hidden
    refine nxh ?_
    obtain ⟨F, e, k, rz_⟩ := k.frzD 1 rfl n_words
    have r_words : ((rDic rStr)).r F (.ref p_words) words := rz_
    have r_seen := (rLst (rTup K rInt)).up e r_seen
    have r_hidden := (rLst (rTup K rInt)).up e r_hidden
    have k : Cov c F [(p_self, (cO4 (He.ga K "Picture") "dimension" "words" "seen_places" "hidden_places" rInt (rDic rStr) (rLst (rTup K rInt)) (rLst (rTup K rInt))) self)] H := k
    obtain ⟨val, hx, hm⟩ := bind_some hm
    obtain ⟨self_n, hs, hm⟩ := bind_some hm
    refine q_put4_0 (i := 0) (j := 0) L.cl_Picture L.na_Picture_dimension rfl rfl (em_varf (i := 1) fl_int rfl r_size) hx hs k fun F H e k => ?_
    obtain ⟨self, ez_⟩ : ∃ z, z = self_n := ⟨_, rfl⟩; subst ez_
    have r_seen := (rLst (rTup K rInt)).up e r_seen
    have r_hidden := (rLst (rTup K rInt)).up e r_hidden
    have r_words := (rDic rStr).up e r_words
    have k : Cov c F [(p_self, (cO4 (He.ga K "Picture") "dimension" "words" "seen_places" "hidden_places" rInt (rDic rStr) (rLst (rTup K rInt)) (rLst (rTup K rInt))) self)] H := k
    obtain ⟨val, hx, hm⟩ := bind_some hm
    obtain ⟨self_n, hs, hm⟩ := bind_some hm
    refine q_put4_1 (i := 0) (j := 0) L.cl_Picture L.na_Picture_words (by decide) rfl rfl (em_var (i := 4) rfl r_words) hx hs k fun F H e k => ?_
    obtain ⟨self, ez_⟩ : ∃ z, z = self_n := ⟨_, rfl⟩; subst ez_
    have r_seen := (rLst (rTup K rInt)).up e r_seen
    have r_hidden := (rLst (rTup K rInt)).up e r_hidden
    have r_words := (rDic rStr).up e r_words
    have k : Cov c F [(p_self, (cO4 (He.ga K "Picture") "dimension" "words" "seen_places" "hidden_places" rInt (rDic rStr) (rLst (rTup K rInt)) (rLst (rTup K rInt))) self)] H := k
    obtain ⟨val, hx, hm⟩ := bind_some hm
    obtain ⟨self_n, hs, hm⟩ := bind_some hm
    refine q_put4_2 (i := 0) (j := 0) L.cl_Picture L.na_Picture_seen_places (by decide) (by decide) rfl rfl ((ef_sortT ((em_var (i := 2) rfl r_seen)).el)).em hx hs k fun F H e k => ?_
    obtain ⟨self, ez_⟩ : ∃ z, z = self_n := ⟨_, rfl⟩; subst ez_
    have r_seen := (rLst (rTup K rInt)).up e r_seen
    have r_hidden := (rLst (rTup K rInt)).up e r_hidden
    have r_words := (rDic rStr).up e r_words
    have k : Cov c F [(p_self, (cO4 (He.ga K "Picture") "dimension" "words" "seen_places" "hidden_places" rInt (rDic rStr) (rLst (rTup K rInt)) (rLst (rTup K rInt))) self)] H := k
    obtain ⟨val, hx, hm⟩ := bind_some hm
    obtain ⟨self_n, hs, hm⟩ := bind_some hm
    refine a_put4_3 (i := 0) (j := 0) L.cl_Picture L.na_Picture_hidden_places (by decide) (by decide) (by decide) rfl rfl ((ef_sortT ((em_var (i := 3) rfl r_hidden)).el)).em hx hs k fun F H e k => ?_
    obtain ⟨self, ez_⟩ : ∃ z, z = self_n := ⟨_, rfl⟩; subst ez_
    have r_seen := (rLst (rTup K rInt)).up e r_seen
    have r_hidden := (rLst (rTup K rInt)).up e r_hidden
    have r_words := (rDic rStr).up e r_words
    have k : Cov c F [(p_self, (cO4 (He.ga K "Picture") "dimension" "words" "seen_places" "hidden_places" rInt (rDic rStr) (rLst (rTup K rInt)) (rLst (rTup K rInt))) self)] H := k
    cases hm
    exact hQ _ _ _ (k.keepN 1) rfl
abbrev s_Picture___or__ : Stmt := clsS 36 7
abbrev N_Picture___or__ : List PySem.Str := ["self", "other", "place", "seen", "hidden"]
theorem sc_Picture___or__ : FnScope N_Picture___or__ ["self", "other"] (defScope s_Picture___or__) := ⟨rfl, rfl, rfl, by decide +kernel, rfl, by decide +kernel, by decide +kernel⟩
def sp_Picture___or__ (K : PySem.W.Frag) : Sp := (Xsp K erL (gpC (rO4 (He.ga K "Picture") "dimension" "words" "seen_places" "hidden_places" rInt (rDic rStr) (rLst (rTup K rInt)) (rLst (rTup K rInt))) (gpC (rO4 (He.ga K "Picture") "dimension" "words" "seen_places" "hidden_places" rInt (rDic rStr) (rLst (rTup K rInt)) (rLst (rTup K rInt))) gpN)) (rO4 (He.ga K "Picture") "dimension" "words" "seen_places" "hidden_places" rInt (rDic rStr) (rLst (rTup K rInt)) (rLst (rTup K rInt))) (fun d => m_Picture___or__ d.1 d.2.1))
theorem ok_Picture___or__ {P : Program} {w : World} {K : PySem.W.Frag} {mg : PySem.Str → Option Value} {base : Heap} (T : Txt mg) (L : ClsF K mg) (E_ : ErrF K mg erL) (C_ei : CalE P w K mg base erL) (C_Picture___init__ : CalI P w K mg base 1 (He.ga K "Picture") ["self", "size", "seen", "hidden"] (sp_Picture___init__ K) (fun _ => True)) {f : Addr} {fd : FuncData} (Fn : FnQ K "__or__" "Picture.__or__" s_Picture___or__ f fd) : FnOk P w K mg base (L2.CX P w) 3 f fd ["self", "other"] (sp_Picture___or__ K) := by
  obtain ⟨f_Picture___init__, fd_Picture___init__, G_Picture___init__, M_Picture___init__, b_Picture___init__, _⟩ := C_Picture___init__.ex
  obtain ⟨fd_ei, G_ei, b_ei⟩ := C_ei.ex
  refine Fn.ok sc_Picture___or__ (fun vs H Q E h => Xsp_len h) (fun cdv A outer s H vs Q E hr h => ?_)
  obtain ⟨F, ⟨self, other, ⟨⟩⟩, res, ex, ⟨v_self, w0_, rfl, r_self, v_other, w1_, rfl, r_other, rfl⟩, hm, hQ, hE⟩ := h
  have k := Cov.init ex
  have r_self : (rO4 (He.ga K "Picture") "dimension" "words" "seen_places" "hidden_places" rInt (rDic rStr) (rLst (rTup K rInt)) (rLst (rTup K rInt))).r F v_self self := r_self
  have r_other : (rO4 (He.ga K "Picture") "dimension" "words" "seen_places" "hidden_places" rInt (rDic rStr) (rLst (rTup K rInt)) (rLst (rTup K rInt))).r F v_other other := r_other
  have hm : m_Picture___or__ self other = some res := hm
  generalize hc : Act.mk H F [] = c at k hQ hE
  unfold m_Picture___or__ at hm
  refine ⟨_, (pss_cons (ps_if (pt_cmpR op_ne (pe_fldK K rfl (pv 0) (by rfl)) (pe_fldK K rfl (pv 1) (by rfl)) (nomark _)) (pss_one (ps_raise rfl (takes_of rfl rfl rfl rfl) (pmk_oex (E_.oex _ er_InvalidSize) (E_.ini _ er_InvalidSize) E_.fnI G_ei (hr.mono (by decide)) b_ei .nil pass0 (by rfl) (E_.glo _ er_InvalidSize) (pa_cons (pe_fldK K rfl (pv 1) (by rfl)) pa_nil)))) pss_nil) (pss_cons (ps_for (passes_of rfl) rfl (pi_listK K rfl (pe_callB (cr_sortedTIK K rfl) (by rfl) T.b_sorted (by decide +kernel) (pa_cons (pe_callTy (cr_listD rfl) (by rfl) T.b_list (by decide +kernel) (pa_cons (pe_fldK K rfl (pv 0) (by rfl)) pa_nil)) pa_nil))) (pg_name (i := 2) sc_Picture___or__.nd rfl (Or.inl rfl)) (pss_one (ps_if (PW.pt (pw_and (pt_cmp (pc_din (un1 hr) (pv 2) (pe_fldK K rfl (pv 1) (by rfl)))) (pw_and1 (pt_cmpR op_ne (pe_dget (un1 hr) (pe_fldK K rfl (pv 1) (by rfl)) (pv 2) (fun _ _ => rfl)) (pe_dget (un1 hr) (pe_fldK K rfl (pv 0) (by rfl)) (pv 2) (fun _ _ => rfl)) (nomark _))))) (pss_one (ps_raise rfl (takes_of rfl rfl rfl rfl) (pmk_oex (E_.oex _ er_Conflict) (E_.ini _ er_Conflict) E_.fnI G_ei (hr.mono (by decide)) b_ei .nil pass0 (by rfl) (E_.glo _ er_Conflict) (pa_cons (pv 2) pa_nil)))) pss_nil))) (pss_cons (ps_set (i := 3) sc_Picture___or__.nd rfl (Or.inl rfl) (pe_op op_cat (pe_fldK K rfl (pv 0) (by rfl)) (pe_lc (own := [("place", 2)]) (g := (gName 2)) (tt := _) rfl sc_Picture___or__.nd (pi_listK K rfl (pe_fldK K rfl (pv 1) (by rfl))) (blkOk_by (N := N_Picture___or__) (sc := defScope s_Picture___or__) (by decide +kernel)) (fun _ _ _ _ _ => (pg_name (i := 2) sc_Picture___or__.nd rfl (Or.inl rfl))) (fun _ _ _ _ _ => (pts_one (pt_cmp (pc_dnotin (un1 hr) (pv 2) (pe_fldK K rfl (pv 0) (by rfl)))))) (fun _ _ _ _ _ => (pv 2))))) (pss_cons (ps_set (i := 4) sc_Picture___or__.nd rfl (Or.inl rfl) (pe_op op_cat (pe_fldK K rfl (pv 0) (by rfl)) (pe_lc (own := [("place", 2)]) (g := (gName 2)) (tt := _) rfl sc_Picture___or__.nd (pi_listK K rfl (pe_fldK K rfl (pv 1) (by rfl))) (blkOk_by (N := N_Picture___or__) (sc := defScope s_Picture___or__) (by decide +kernel)) (fun _ _ _ _ _ => (pg_name (i := 2) sc_Picture___or__.nd rfl (Or.inl rfl))) (fun _ _ _ _ _ => (pts_one (pt_cmp (pc_dnotin (un1 hr) (pv 2) (pe_fldK K rfl (pv 0) (by rfl)))))) (fun _ _ _ _ _ => (pv 2))))) (pss_one (ps_ret (pe_make M_Picture___init__ G_Picture___init__ (hr.mono (by decide)) (by rfl) L.g_Picture b_Picture___init__ .nil pass0 (pa_cons (pe_fldK K rfl (pv 0) (by rfl)) (pa_cons (pv 3) (pa_cons (pv 4) pa_nil)))))))))), ?_⟩
  show (_ : TS) _ [some v_self, some v_other, none, none, none] _
  obtain ⟨b, hb, hm⟩ := bind_some hm
  refine q_ife (et_test (em_op vo_neI (em_fld4_0 L.cl_Picture L.na_Picture_dimension (em_var (i := 0) rfl r_self)) (em_fld4_0 L.cl_Picture L.na_Picture_dimension (em_var (i := 1) rfl r_other)))) hb k (fun eb F H e k => ?_) (fun eb F H e k => ?_)
  ·
    subst eb
    have hm := hT hm
    have r_self := (rO4 (He.ga K "Picture") "dimension" "words" "seen_places" "hidden_places" rInt (rDic rStr) (rLst (rTup K rInt)) (rLst (rTup K rInt))).up e r_self
    have r_other := (rO4 (He.ga K "Picture") "dimension" "words" "seen_places" "hidden_places" rInt (rDic rStr) (rLst (rTup K rInt)) (rLst (rTup K rInt))).up e r_other
    obtain ⟨p_, hx, hm⟩ := bind_some hm
    refine a_raise (W := fun cls d _ H => E cls d H) (σ := [some v_self, some v_other, none, none, none]) E_ er_InvalidSize (pay := Pay.int) py_int (em_fld4_0 L.cl_Picture L.na_Picture_dimension (em_var (i := 1) rfl r_other)) hx k fun cls dd F H e k rE => ?_
    have r_self := (rO4 (He.ga K "Picture") "dimension" "words" "seen_places" "hidden_places" rInt (rDic rStr) (rLst (rTup K rInt)) (rLst (rTup K rInt))).up e r_self
    have r_other := (rO4 (He.ga K "Picture") "dimension" "words" "seen_places" "hidden_places" rInt (rDic rStr) (rLst (rTup K rInt)) (rLst (rTup K rInt))).up e r_other
    have hm := Option.some.inj hm
    exact hE _ hm.symm cls dd F H k.dropAll rE
  ·
    subst eb
    have hm := hF hm
    have r_self := (rO4 (He.ga K "Picture") "dimension" "words" "seen_places" "hidden_places" rInt (rDic rStr) (rLst (rTup K rInt)) (rLst (rTup K rInt))).up e r_self
    have r_other := (rO4 (He.ga K "Picture") "dimension" "words" "seen_places" "hidden_places" rInt (rDic rStr) (rLst (rTup K rInt)) (rLst (rTup K rInt))).up e r_other
    obtain ⟨l_, hl, hm⟩ := bind_some hm
    obtain ⟨out1, hf, hm⟩ := bind_some hm
    have hm1 := hm
    refine sq ?_
    refine a_loop (ei_list ((ef_sortT ((ef_listD ((em_fld4_1 L.cl_Picture L.na_Picture_words (by decide) (em_var (i := 0) rfl r_self))).ed)).em.el)).em) hl k hf fun F H e k => ⟨fun g σ1 F1 H1 => ∃ w_place, σ1 = [some v_self, some v_other, w_place, none, none] ∧ Ex F F1 ∧ Cov c F1 [] H1, fun g => [], ?_, ?_, ?_, ?_⟩
    · exact ⟨_, rfl, Evl.Ex.refl _, k⟩
    · rintro g σ1 F1 H1 ⟨_, rfl, e1, k1⟩
      exact ⟨e1, k1⟩
    · rintro d v ⟨⟩ oo1 σ1 F1 H1 F H ⟨w_place, rfl, eL3, _⟩ e1 k rd hm hret1 hbrk1
      have eL3 := eL3.trans e1
      have r_self := (rO4 (He.ga K "Picture") "dimension" "words" "seen_places" "hidden_places" rInt (rDic rStr) (rLst (rTup K rInt)) (rLst (rTup K rInt))).up (e.trans eL3) r_self
      have r_other := (rO4 (He.ga K "Picture") "dimension" "words" "seen_places" "hidden_places" rInt (rDic rStr) (rLst (rTup K rInt)) (rLst (rTup K rInt))).up (e.trans eL3) r_other
      obtain ⟨place, ez_⟩ : ∃ z, z = d := ⟨_, rfl⟩; subst ez_
      obtain ⟨v_place, ez_⟩ : ∃ z, z = v := ⟨_, rfl⟩; subst ez_
      have r_place := rd
      refine gn (σ1 := [some v_self, some v_other, some v_place, none, none]) rfl ?_
      obtain ⟨b, hb, hm⟩ := bind_some hm
      refine a_if (et_and (et_B (em_din (em_var (i := 2) rfl r_place) ((em_fld4_1 L.cl_Picture L.na_Picture_words (by decide) (em_var (i := 1) rfl r_other))).ed)) (et_test (em_op vo_neS (em_dget ((em_fld4_1 L.cl_Picture L.na_Picture_words (by decide) (em_var (i := 1) rfl r_other))).ed (em_var (i := 2) rfl r_place)) (em_dget ((em_fld4_1 L.cl_Picture L.na_Picture_words (by decide) (em_var (i := 0) rfl r_self))).ed (em_var (i := 2) rfl r_place))))) hb k (fun eb F H e k => ?_) (fun eb F H e k => ?_)
      ·
        subst eb
        have hm := hT hm
        have r_self := (rO4 (He.ga K "Picture") "dimension" "words" "seen_places" "hidden_places" rInt (rDic rStr) (rLst (rTup K rInt)) (rLst (rTup K rInt))).up e r_self
        have r_other := (rO4 (He.ga K "Picture") "dimension" "words" "seen_places" "hidden_places" rInt (rDic rStr) (rLst (rTup K rInt)) (rLst (rTup K rInt))).up e r_other
        have r_place := (rTup K rInt).up e r_place
        have eL3 := eL3.trans e
        obtain ⟨p_, hx, hm⟩ := bind_some hm
        refine a_raise (W := fun cls d _ H => E cls d H) (σ := [some v_self, some v_other, some v_place, none, none]) E_ er_Conflict (pay := Pay.tup) py_tup (em_var (i := 2) rfl r_place) hx k fun cls dd F H e k rE => ?_
        have r_self := (rO4 (He.ga K "Picture") "dimension" "words" "seen_places" "hidden_places" rInt (rDic rStr) (rLst (rTup K rInt)) (rLst (rTup K rInt))).up e r_self
        have r_other := (rO4 (He.ga K "Picture") "dimension" "words" "seen_places" "hidden_places" rInt (rDic rStr) (rLst (rTup K rInt)) (rLst (rTup K rInt))).up e r_other
        have r_place := (rTup K rInt).up e r_place
        have eL3 := eL3.trans e
        have hm := Option.some.inj hm
        subst hm
        have ho1 := hret1 _ rfl
        rw [ho1] at hm1
        have hm := Option.some.inj hm1
        exact hE _ hm.symm cls dd F H k.dropAll rE
      ·
        subst eb
        have hm := hF hm
        have r_self := (rO4 (He.ga K "Picture") "dimension" "words" "seen_places" "hidden_places" rInt (rDic rStr) (rLst (rTup K rInt)) (rLst (rTup K rInt))).up e r_self
        have r_other := (rO4 (He.ga K "Picture") "dimension" "words" "seen_places" "hidden_places" rInt (rDic rStr) (rLst (rTup K rInt)) (rLst (rTup K rInt))).up e r_other
        have r_place := (rTup K rInt).up e r_place
        have eL3 := eL3.trans e
        show Ends.nx _ _ _
        have hm := Option.some.inj hm
        subst hm
        exact ⟨F, _, rfl, _, rfl, eL3, k⟩
    rintro ⟨⟩ σ1 F H eo ⟨w_place, rfl, e1, k⟩
    subst eo
    have r_self := (rO4 (He.ga K "Picture") "dimension" "words" "seen_places" "hidden_places" rInt (rDic rStr) (rLst (rTup K rInt)) (rLst (rTup K rInt))).up (e.trans e1) r_self
    have r_other := (rO4 (He.ga K "Picture") "dimension" "words" "seen_places" "hidden_places" rInt (rDic rStr) (rLst (rTup K rInt)) (rLst (rTup K rInt))).up (e.trans e1) r_other
    refine nxh ?_
    obtain ⟨seen_n, hx, hm⟩ := bind_some hm
    refine q_set ((ef_cat ((em_fld4_2 L.cl_Picture L.na_Picture_seen_places (by decide) (by decide) (em_var (i := 0) rfl r_self))).es ((ef_lc (K := K) (t := (fun (place : (List Int)) => (o2 dNotInG (some place) (some self.2.1)))) (f := fun (place : (List Int)) => (some place)) (S := (fun d F1 σ2 => ∃ v_place, σ2 = [some v_self, some v_other, some v_place, none, none] ∧ (rTup K rInt).r F1 v_place d)) (ei_list (em_fld4_2 L.cl_Picture L.na_Picture_seen_places (by decide) (by decide) (em_var (i := 1) rfl r_other))) (gt_name (fun _ => rfl)) (fun d F1 σ2 hs => by obtain ⟨_, rfl, _⟩ := hs; rfl) (by intro place F1 σ2 e1 hs; obtain ⟨v_place, rfl, r_place⟩ := hs; have r_self := (rO4 (He.ga K "Picture") "dimension" "words" "seen_places" "hidden_places" rInt (rDic rStr) (rLst (rTup K rInt)) (rLst (rTup K rInt))).up e1 r_self; have r_other := (rO4 (He.ga K "Picture") "dimension" "words" "seen_places" "hidden_places" rInt (rDic rStr) (rLst (rTup K rInt)) (rLst (rTup K rInt))).up e1 r_other; exact (et_B (em_dnotin (em_var (i := 2) rfl r_place) ((em_fld4_1 L.cl_Picture L.na_Picture_words (by decide) (em_var (i := 0) rfl r_self))).ed))) (by intro place F1 σ2 e1 hs; obtain ⟨v_place, rfl, r_place⟩ := hs; have r_self := (rO4 (He.ga K "Picture") "dimension" "words" "seen_places" "hidden_places" rInt (rDic rStr) (rLst (rTup K rInt)) (rLst (rTup K rInt))).up e1 r_self; have r_other := (rO4 (He.ga K "Picture") "dimension" "words" "seen_places" "hidden_places" rInt (rDic rStr) (rLst (rTup K rInt)) (rLst (rTup K rInt))).up e1 r_other; exact (em_var (i := 2) rfl r_place)))).em.es)).em hx k fun v_seen F H e k r_seen => ?_
    obtain ⟨seen, ez_⟩ : ∃ z, z = seen_n := ⟨_, rfl⟩; subst ez_
    show (_ : TS) _ [some v_self, some v_other, w_place, some v_seen, none] _
    have r_self := (rO4 (He.ga K "Picture") "dimension" "words" "seen_places" "hidden_places" rInt (rDic rStr) (rLst (rTup K rInt)) (rLst (rTup K rInt))).up e r_self
    have r_other := (rO4 (He.ga K "Picture") "dimension" "words" "seen_places" "hidden_places" rInt (rDic rStr) (rLst (rTup K rInt)) (rLst (rTup K rInt))).up e r_other
    obtain ⟨hidden_n, hx, hm⟩ := bind_some hm
    refine q_set ((ef_cat ((em_fld4_3 L.cl_Picture L.na_Picture_hidden_places (by decide) (by decide) (by decide) (em_var (i := 0) rfl r_self))).es ((ef_lc (K := K) (t := (fun (place : (List Int)) => (o2 dNotInG (some place) (some self.2.1)))) (f := fun (place : (List Int)) => (some place)) (S := (fun d F1 σ2 => ∃ v_place, σ2 = [some v_self, some v_other, some v_place, some v_seen, none] ∧ (rTup K rInt).r F1 v_place d)) (ei_list (em_fld4_3 L.cl_Picture L.na_Picture_hidden_places (by decide) (by decide) (by decide) (em_var (i := 1) rfl r_other))) (gt_name (fun _ => rfl)) (fun d F1 σ2 hs => by obtain ⟨_, rfl, _⟩ := hs; rfl) (by intro place F1 σ2 e1 hs; obtain ⟨v_place, rfl, r_place⟩ := hs; have r_self := (rO4 (He.ga K "Picture") "dimension" "words" "seen_places" "hidden_places" rInt (rDic rStr) (rLst (rTup K rInt)) (rLst (rTup K rInt))).up e1 r_self; have r_other := (rO4 (He.ga K "Picture") "dimension" "words" "seen_places" "hidden_places" rInt (rDic rStr) (rLst (rTup K rInt)) (rLst (rTup K rInt))).up e1 r_other; have r_seen := (rLst (rTup K rInt)).up e1 r_seen; exact (et_B (em_dnotin (em_var (i := 2) rfl r_place) ((em_fld4_1 L.cl_Picture L.na_Picture_words (by decide) (em_var (i := 0) rfl r_self))).ed))) (by intro place F1 σ2 e1 hs; obtain ⟨v_place, rfl, r_place⟩ := hs; have r_self := (rO4 (He.ga K "Picture") "dimension" "words" "seen_places" "hidden_places" rInt (rDic rStr) (rLst (rTup K rInt)) (rLst (rTup K rInt))).up e1 r_self; have r_other := (rO4 (He.ga K "Picture") "dimension" "words" "seen_places" "hidden_places" rInt (rDic rStr) (rLst (rTup K rInt)) (rLst (rTup K rInt))).up e1 r_other; have r_seen := (rLst (rTup K rInt)).up e1 r_seen; exact (em_var (i := 2) rfl r_place)))).em.es)).em hx k fun v_hidden F H e k r_hidden => ?_
    obtain ⟨hidden, ez_⟩ : ∃ z, z = hidden_n := ⟨_, rfl⟩; subst ez_
    show (_ : TS) _ [some v_self, some v_other, w_place, some v_seen, some v_hidden] _
    have r_self := (rO4 (He.ga K "Picture") "dimension" "words" "seen_places" "hidden_places" rInt (rDic rStr) (rLst (rTup K rInt)) (rLst (rTup K rInt))).up e r_self
    have r_other := (rO4 (He.ga K "Picture") "dimension" "words" "seen_places" "hidden_places" rInt (rDic rStr) (rLst (rTup K rInt)) (rLst (rTup K rInt))).up e r_other
    have r_seen := (rLst (rTup K rInt)).up e r_seen
    obtain ⟨rv, hv, hm⟩ := bind_some hm
    have hm := Option.some.inj hm
    cases hm
    exact a_ret (em_make4_3 (em_fld4_0 L.cl_Picture L.na_Picture_dimension (em_var (i := 0) rfl r_self)) (em_var (i := 3) rfl r_seen) (em_var (i := 4) rfl r_hidden)) hv k fun v F H e k r => hQ _ rfl v F H k.dropAll r
abbrev s_Picture___sub__ : Stmt := clsS 36 8
abbrev N_Picture___sub__ : List PySem.Str := ["self", "other", "seen", "place"]
theorem sc_Picture___sub__ : FnScope N_Picture___sub__ ["self", "other"] (defScope s_Picture___sub__) := ⟨rfl, rfl, rfl, by decide +kernel, rfl, by decide +kernel, by decide +kernel⟩
def sp_Picture___sub__ (K : PySem.W.Frag) : Sp := (Psp2 (rO4 (He.ga K "Picture") "dimension" "words" "seen_places" "hidden_places" rInt (rDic rStr) (rLst (rTup K rInt)) (rLst (rTup K rInt))) (rO4 (He.ga K "Picture") "dimension" "words" "seen_places" "hidden_places" rInt (rDic rStr) (rLst (rTup K rInt)) (rLst (rTup K rInt))) (rO4 (He.ga K "Picture") "dimension" "words" "seen_places" "hidden_places" rInt (rDic rStr) (rLst (rTup K rInt)) (rLst (rTup K rInt))) m_Picture___sub__)
theorem ok_Picture___sub__ {P : Program} {w : World} {K : PySem.W.Frag} {mg : PySem.Str → Option Value} {base : Heap} (T : Txt mg) (L : ClsF K mg) (E_ : ErrF K mg erL) (C_Picture___init__ : CalI P w K mg base 1 (He.ga K "Picture") ["self", "size", "seen", "hidden"] (sp_Picture___init__ K) (fun _ => True)) {f : Addr} {fd : FuncData} (Fn : FnQ K "__sub__" "Picture.__sub__" s_Picture___sub__ f fd) : FnOk P w K mg base CX0 3 f fd ["self", "other"] (sp_Picture___sub__ K) := by
  obtain ⟨f_Picture___init__, fd_Picture___init__, G_Picture___init__, M_Picture___init__, b_Picture___init__, _⟩ := C_Picture___init__.ex
  refine Fn.ok sc_Picture___sub__ (fun vs H Q E h => Psp2_len h) (fun cdv A outer s H vs Q E hr h => ?_)
  obtain ⟨F, v_self, v_other, self, other, res, rfl, ex, r_self, r_other, hm, hQ⟩ := h
  have k := Cov.init ex
  generalize hc : Act.mk H F [] = c at k hQ
  unfold m_Picture___sub__ at hm
  refine ⟨_, PSs.nox (pss_cons (ps_if (pt_cmpR op_ne (pe_fldK K rfl (pv 0) (by rfl)) (pe_fldK K rfl (pv 1) (by rfl)) (nomark _)) (pss_one ps_never) pss_nil) (pss_cons (ps_setLc (i := 2) (own := [("place", 3)]) (g := (gName 3)) (tt := _) rfl sc_Picture___sub__.nd rfl rfl (sw_true rfl rfl rfl (by decide +kernel)) (pi_listK K rfl (pe_fldK K rfl (pv 0) (by rfl))) (blkOk_by (N := N_Picture___sub__) (sc := defScope s_Picture___sub__) (by decide +kernel)) (fun _ _ _ _ _ => (pg_name (i := 3) sc_Picture___sub__.nd rfl (Or.inl rfl))) (fun _ _ _ _ _ => (pts_one (pt_cmp (pc_dnotin (un1 hr) (pv 3) (pe_fldK K rfl (pv 1) (by rfl)))))) (fun _ _ _ _ _ => (pv 3))) (pss_one (ps_ret (pe_make M_Picture___init__ G_Picture___init__ (hr.mono (by decide)) (by rfl) L.g_Picture b_Picture___init__ .nil pass0 (pa_cons (pe_fldK K rfl (pv 0) (by rfl)) (pa_cons (pv 2) (pa_cons (pe_lc (own := [("place", 3)]) (g := (gName 3)) (tt := _) rfl sc_Picture___sub__.nd (pi_listK K rfl (pe_fldK K rfl (pv 0) (by rfl))) (blkOk_by (N := N_Picture___sub__) (sc := defScope s_Picture___sub__) (by decide +kernel)) (fun _ _ _ _ _ => (pg_name (i := 3) sc_Picture___sub__.nd rfl (Or.inl rfl))) (fun _ _ _ _ _ => (pts_one (pt_cmp (pc_dnotin (un1 hr) (pv 3) (pe_fldK K rfl (pv 1) (by rfl)))))) (fun _ _ _ _ _ => (pv 3))) pa_nil)))))))), ?_⟩
  show (_ : TS) _ [some v_self, some v_other, none, none] _
  obtain ⟨b, hb, hm⟩ := bind_some hm
  refine q_ife (et_test (em_op vo_neI (em_fld4_0 L.cl_Picture L.na_Picture_dimension (em_var (i := 0) rfl r_self)) (em_fld4_0 L.cl_Picture L.na_Picture_dimension (em_var (i := 1) rfl r_other)))) hb k (fun eb F H e k => ?_) (fun eb F H e k => ?_)
  ·
    subst eb
    have hm := hT hm
    have r_self := (rO4 (He.ga K "Picture") "dimension" "words" "seen_places" "hidden_places" rInt (rDic rStr) (rLst (rTup K rInt)) (rLst (rTup K rInt))).up e r_self
    have r_other := (rO4 (He.ga K "Picture") "dimension" "words" "seen_places" "hidden_places" rInt (rDic rStr) (rLst (rTup K rInt)) (rLst (rTup K rInt))).up e r_other
    cases hm
  ·
    subst eb
    have hm := hF hm
    have r_self := (rO4 (He.ga K "Picture") "dimension" "words" "seen_places" "hidden_places" rInt (rDic rStr) (rLst (rTup K rInt)) (rLst (rTup K rInt))).up e r_self
    have r_other := (rO4 (He.ga K "Picture") "dimension" "words" "seen_places" "hidden_places" rInt (rDic rStr) (rLst (rTup K rInt)) (rLst (rTup K rInt))).up e r_other
    obtain ⟨seen_n, hx, hm⟩ := bind_some hm
    refine q_set ((ef_lc (K := K) (t := (fun (place : (List Int)) => (o2 dNotInG (some place) (some other.2.1)))) (f := fun (place : (List Int)) => (some place)) (S := (fun d F1 σ2 => ∃ v_place, σ2 = [some v_self, some v_other, none, some v_place] ∧ (rTup K rInt).r F1 v_place d)) (ei_list (em_fld4_2 L.cl_Picture L.na_Picture_seen_places (by decide) (by decide) (em_var (i := 0) rfl r_self))) (gt_name (fun _ => rfl)) (fun d F1 σ2 hs => by obtain ⟨_, rfl, _⟩ := hs; rfl) (by intro place F1 σ2 e1 hs; obtain ⟨v_place, rfl, r_place⟩ := hs; have r_self := (rO4 (He.ga K "Picture") "dimension" "words" "seen_places" "hidden_places" rInt (rDic rStr) (rLst (rTup K rInt)) (rLst (rTup K rInt))).up e1 r_self; have r_other := (rO4 (He.ga K "Picture") "dimension" "words" "seen_places" "hidden_places" rInt (rDic rStr) (rLst (rTup K rInt)) (rLst (rTup K rInt))).up e1 r_other; exact (et_B (em_dnotin (em_var (i := 3) rfl r_place) ((em_fld4_1 L.cl_Picture L.na_Picture_words (by decide) (em_var (i := 1) rfl r_other))).ed))) (by intro place F1 σ2 e1 hs; obtain ⟨v_place, rfl, r_place⟩ := hs; have r_self := (rO4 (He.ga K "Picture") "dimension" "words" "seen_places" "hidden_places" rInt (rDic rStr) (rLst (rTup K rInt)) (rLst (rTup K rInt))).up e1 r_self; have r_other := (rO4 (He.ga K "Picture") "dimension" "words" "seen_places" "hidden_places" rInt (rDic rStr) (rLst (rTup K rInt)) (rLst (rTup K rInt))).up e1 r_other; exact (em_var (i := 3) rfl r_place)))).em hx k fun v_seen F H e k r_seen => ?_
    obtain ⟨seen, ez_⟩ : ∃ z, z = seen_n := ⟨_, rfl⟩; subst ez_
    show (_ : TS) _ [some v_self, some v_other, some v_seen, none] _
    have r_self := (rO4 (He.ga K "Picture") "dimension" "words" "seen_places" "hidden_places" rInt (rDic rStr) (rLst (rTup K rInt)) (rLst (rTup K rInt))).up e r_self
    have r_other := (rO4 (He.ga K "Picture") "dimension" "words" "seen_places" "hidden_places" rInt (rDic rStr) (rLst (rTup K rInt)) (rLst (rTup K rInt))).up e r_other
    obtain ⟨rv, hv, hm⟩ := bind_some hm
    have hm := Option.some.inj hm
    cases hm
    exact a_ret (em_make4_3 (em_fld4_0 L.cl_Picture L.na_Picture_dimension (em_var (i := 0) rfl r_self)) (em_var (i := 2) rfl r_seen) ((ef_lc (K := K) (t := (fun (place : (List Int)) => (o2 dNotInG (some place) (some other.2.1)))) (f := fun (place : (List Int)) => (some place)) (S := (fun d F1 σ2 => ∃ v_place, σ2 = [some v_self, some v_other, some v_seen, some v_place] ∧ (rTup K rInt).r F1 v_place d)) (ei_list (em_fld4_3 L.cl_Picture L.na_Picture_hidden_places (by decide) (by decide) (by decide) (em_var (i := 0) rfl r_self))) (gt_name (fun _ => rfl)) (fun d F1 σ2 hs => by obtain ⟨_, rfl, _⟩ := hs; rfl) (by intro place F1 σ2 e1 hs; obtain ⟨v_place, rfl, r_place⟩ := hs; have r_self := (rO4 (He.ga K "Picture") "dimension" "words" "seen_places" "hidden_places" rInt (rDic rStr) (rLst (rTup K rInt)) (rLst (rTup K rInt))).up e1 r_self; have r_other := (rO4 (He.ga K "Picture") "dimension" "words" "seen_places" "hidden_places" rInt (rDic rStr) (rLst (rTup K rInt)) (rLst (rTup K rInt))).up e1 r_other; have r_seen := (rLst (rTup K rInt)).up e1 r_seen; exact (et_B (em_dnotin (em_var (i := 3) rfl r_place) ((em_fld4_1 L.cl_Picture L.na_Picture_words (by decide) (em_var (i := 1) rfl r_other))).ed))) (by intro place F1 σ2 e1 hs; obtain ⟨v_place, rfl, r_place⟩ := hs; have r_self := (rO4 (He.ga K "Picture") "dimension" "words" "seen_places" "hidden_places" rInt (rDic rStr) (rLst (rTup K rInt)) (rLst (rTup K rInt))).up e1 r_self; have r_other := (rO4 (He.ga K "Picture") "dimension" "words" "seen_places" "hidden_places" rInt (rDic rStr) (rLst (rTup K rInt)) (rLst (rTup K rInt))).up e1 r_other; have r_seen := (rLst (rTup K rInt)).up e1 r_seen; exact (em_var (i := 3) rfl r_place)))).em) hv k fun v F H e k r => hQ v F H k.dropAll r
abbrev s_Picture___len__ : Stmt := clsS 36 10
abbrev N_Picture___len__ : List PySem.Str := ["self"]
theorem sc_Picture___len__ : FnScope N_Picture___len__ ["self"] (defScope s_Picture___len__) := ⟨rfl, rfl, rfl, by decide +kernel, rfl, by decide +kernel, by decide +kernel⟩
def sp_Picture___len__ (K : PySem.W.Frag) : Sp := (Psp1 (rO4 (He.ga K "Picture") "dimension" "words" "seen_places" "hidden_places" rInt (rDic rStr) (rLst (rTup K rInt)) (rLst (rTup K rInt))) rInt m_Picture___len__)
theorem ok_Picture___len__ {P : Program} {w : World} {K : PySem.W.Frag} {mg : PySem.Str → Option Value} {base : Heap} (T : Txt mg) (L : ClsF K mg) (E_ : ErrF K mg erL) {f : Addr} {fd : FuncData} (Fn : FnQ K "__len__" "Picture.__len__" s_Picture___len__ f fd) : FnOk P w K mg base CX0 1 f fd ["self"] (sp_Picture___len__ K) := by
  refine Fn.ok sc_Picture___len__ (fun vs H Q E h => Psp1_len h) (fun cdv A outer s H vs Q E hr h => ?_)
  obtain ⟨F, v_self, self, res, rfl, ex, r_self, hm, hQ⟩ := h
  have k := Cov.init ex
  generalize hc : Act.mk H F [] = c at k hQ
  unfold m_Picture___len__ at hm
  refine ⟨_, PSs.nox (pss_one (ps_ret (pe_callB call_len_dT (by rfl) T.b_len PySem.boot_len (pa_cons (pe_fldK K rfl (pv 0) (by rfl)) pa_nil)))), ?_⟩
  show (_ : TS) _ [some v_self] _
  obtain ⟨rv, hv, hm⟩ := bind_some hm
  have hm := Option.some.inj hm
  cases hm
  exact a_ret (em_lenD ((em_fld4_1 L.cl_Picture L.na_Picture_words (by decide) (em_var (i := 0) rfl r_self))).ed) hv k fun v F H e k r => hQ v F H k.dropAll r
abbrev s_Picture___eq__ : Stmt := clsS 36 11
abbrev N_Picture___eq__ : List PySem.Str := ["self", "other"]
theorem sc_Picture___eq__ : FnScope N_Picture___eq__ ["self", "other"] (defScope s_Picture___eq__) := ⟨rfl, rfl, rfl, by decide +kernel, rfl, by decide +kernel, by decide +kernel⟩
def sp_Picture___eq__ (K : PySem.W.Frag) : Sp := (Psp2 (rO4 (He.ga K "Picture") "dimension" "words" "seen_places" "hidden_places" rInt (rDic rStr) (rLst (rTup K rInt)) (rLst (rTup K rInt))) (rO4 (He.ga K "Picture") "dimension" "words" "seen_places" "hidden_places" rInt (rDic rStr) (rLst (rTup K rInt)) (rLst (rTup K rInt))) rBool m_Picture___eq__)
theorem ok_Picture___eq__ {P : Program} {w : World} {K : PySem.W.Frag} {mg : PySem.Str → Option Value} {base : Heap} (T : Txt mg) (L : ClsF K mg) (E_ : ErrF K mg erL) {f : Addr} {fd : FuncData} (Fn : FnQ K "__eq__" "Picture.__eq__" s_Picture___eq__ f fd) : FnOk P w K mg base CX0 1 f fd ["self", "other"] (sp_Picture___eq__ K) := by
  refine Fn.ok sc_Picture___eq__ (fun vs H Q E h => Psp2_len h) (fun cdv A outer s H vs Q E hr h => ?_)
  obtain ⟨F, v_self, v_other, self, other, res, rfl, ex, r_self, r_other, hm, hQ⟩ := h
  have k := Cov.init ex
  generalize hc : Act.mk H F [] = c at k hQ
  unfold m_Picture___eq__ at hm
  refine ⟨_, PSs.nox (pss_cons (ps_if (PW.pt (pw_or (pt_not (pt_val (pe_callB (call_isiK2 K rfl) (by rfl) T.b_isinstance (by decide +kernel) (pa_cons (pv 1) (pa_cons (pe_glob (v := .ref (He.ga K "Picture")) (by rfl) L.g_Picture rfl) pa_nil))))) (pw_or1 (pt_cmpR op_ne (pe_fldK K rfl (pv 0) (by rfl)) (pe_fldK K rfl (pv 1) (by rfl)) (nomark _))))) (pss_one (ps_ret pe_bl)) pss_nil) (pss_one (ps_ret (pe_and (pe_cmpR (op_eqDK K rfl hr.units) (pe_fldK K rfl (pv 0) (by rfl)) (pe_fldK K rfl (pv 1) (by rfl)) (nomark _)) (pe_one (pe_cmpR (op_eqDK K rfl hr.units) (pe_fldK K rfl (pv 0) (by rfl)) (pe_fldK K rfl (pv 1) (by rfl)) (nomark _))))))), ?_⟩
  show (_ : TS) _ [some v_self, some v_other] _
  obtain ⟨b, hb, hm⟩ := bind_some hm
  refine q_ife (et_eq (m' := some ((!true) || (!decide (self.1 = other.1)))) (et_or (et_not (et_B (em_isO objP_O4 L.in_Picture (em_var (i := 1) rfl r_other)))) (et_test (em_op vo_neI (em_fld4_0 L.cl_Picture L.na_Picture_dimension (em_var (i := 0) rfl r_self)) (em_fld4_0 L.cl_Picture L.na_Picture_dimension (em_var (i := 1) rfl r_other))))) (by exact oOr_tt)) hb k (fun eb F H e k => ?_) (fun eb F H e k => ?_)
  ·
    subst eb
    have hm := hT hm
    have r_self := (rO4 (He.ga K "Picture") "dimension" "words" "seen_places" "hidden_places" rInt (rDic rStr) (rLst (rTup K rInt)) (rLst (rTup K rInt))).up e r_self
    have r_other := (rO4 (He.ga K "Picture") "dimension" "words" "seen_places" "hidden_places" rInt (rDic rStr) (rLst (rTup K rInt)) (rLst (rTup K rInt))).up e r_other
    obtain ⟨rv, hv, hm⟩ := bind_some hm
    have hm := Option.some.inj hm
    cases hm
    exact a_ret em_bl hv k fun v F H e k r => hQ v F H k.dropAll r
  ·
    subst eb
    have hm := hF hm
    have r_self := (rO4 (He.ga K "Picture") "dimension" "words" "seen_places" "hidden_places" rInt (rDic rStr) (rLst (rTup K rInt)) (rLst (rTup K rInt))).up e r_self
    have r_other := (rO4 (He.ga K "Picture") "dimension" "words" "seen_places" "hidden_places" rInt (rDic rStr) (rLst (rTup K rInt)) (rLst (rTup K rInt))).up e r_other
    obtain ⟨rv, hv, hm⟩ := bind_some hm
    have hm := Option.some.inj hm
    cases hm
    exact a_ret (em_andV (em_op (vo_eqD (dq_lst (dq_tup dq_int)) (Nat.le_of_ble_eq_true rfl)) (em_fld4_2 L.cl_Picture L.na_Picture_seen_places (by decide) (by decide) (em_var (i := 0) rfl r_self)) (em_fld4_2 L.cl_Picture L.na_Picture_seen_places (by decide) (by decide) (em_var (i := 1) rfl r_other))) (em_op (vo_eqD (dq_lst (dq_tup dq_int)) (Nat.le_of_ble_eq_true rfl)) (em_fld4_3 L.cl_Picture L.na_Picture_hidden_places (by decide) (by decide) (by decide) (em_var (i := 0) rfl r_self)) (em_fld4_3 L.cl_Picture L.na_Picture_hidden_places (by decide) (by decide) (by decide) (em_var (i := 1) rfl r_other)))) hv k fun v F H e k r => hQ v F H k.dropAll r
abbrev s_common_divisor : Stmt := topS 16
abbrev N_common_divisor : List PySem.Str := ["one", "other"]
theorem sc_common_divisor : FnScope N_common_divisor ["one", "other"] (defScope s_common_divisor) := ⟨rfl, rfl, rfl, by decide +kernel, rfl, by decide +kernel, by decide +kernel⟩
def sp_common_divisor (K : PySem.W.Frag) : Sp := (Psp2 rInt rInt rInt m_common_divisor)
theorem ok_common_divisor {P : Program} {w : World} {K : PySem.W.Frag} {mg : PySem.Str → Option Value} {base : Heap} (T : Txt mg) (L : ClsF K mg) (E_ : ErrF K mg erL) {f : Addr} {fd : FuncData} (Fn : FnP K "common_divisor" s_common_divisor f fd) : FnOk P w K mg base CX0 1 f fd ["one", "other"] (sp_common_divisor K) := by
  refine Fn.ok sc_common_divisor (fun vs H Q E h => Psp2_len h) (fun cdv A outer s H vs Q E hr h => ?_)
  obtain ⟨F, v_one, v_other, one, other, res, rfl, ex, r_one, r_other, hm, hQ⟩ := h
  have k := Cov.init ex
  generalize hc : Act.mk H F [] = c at k hQ
  unfold m_common_divisor at hm
  refine ⟨_, PSs.nox (pss_cons (ps_par (i := 0) (j := 1) (by rfl) sc_common_divisor.nd rfl rfl (by decide) rfl rfl (pa_cons (pe_callB call_abs (by rfl) T.b_abs (by decide +kernel) (pa_cons (pv 0) pa_nil)) (pa_cons (pe_callB call_abs (by rfl) T.b_abs (by decide +kernel) (pa_cons (pv 1) pa_nil)) pa_nil)) (by rfl)) (pss_cons (ps_while PassesOwn.never (pt_cmpR op_gt (pv 1) pe_int (nomark _)) (pss_one (ps_par (i := 0) (j := 1) (by rfl) sc_common_divisor.nd rfl rfl (by decide) rfl rfl (pa_cons (pv 1) (pa_cons (pe_op op_mod (pv 0) (pv 1)) pa_nil)) (by rfl)))) (pss_one (ps_ret (pv 0))))), ?_⟩
  show (_ : TS) _ [some v_one, some v_other] _
  obtain ⟨⟨one_n, other_n⟩, hx, hm⟩ := bind_some hm
  obtain ⟨hx, hy⟩ := oP2_some hx
  refine q_par (em_cb vc_abs (em_varf (i := 0) fl_int rfl r_one)) (em_cb vc_abs (em_varf (i := 1) fl_int rfl r_other)) hx hy k fun v_one v_other F H e k r_one r_other => ?_
  obtain ⟨one, ez_⟩ : ∃ z, z = one_n := ⟨_, rfl⟩; subst ez_
  obtain ⟨other, ez_⟩ : ∃ z, z = other_n := ⟨_, rfl⟩; subst ez_
  show (_ : TS) _ [some v_one, some v_other] _
  obtain ⟨g1_, hf, hm⟩ := bind_some hm
  refine sq ?_
  refine a_while (F := F) (c := c) hf (fun g σ1 F1 H1 => ∃ v_one v_other, σ1 = [some v_one, some v_other] ∧ Ex F F1 ∧ Cov c F1 [] H1 ∧ rInt.r F1 v_one g.1 ∧ rInt.r F1 v_other g.2) (fun g => []) ?_ ?_ ?_ ?_ ?_ ?_
  · exact ⟨v_one, v_other, rfl, Evl.Ex.refl _, k, r_one, r_other⟩
  · rintro ⟨one, other⟩ σ1 F H ⟨v_one, v_other, rfl, eL4, k, r_one, r_other⟩
    exact k
  · rintro ⟨one, other⟩ σ1 F H ⟨v_one, v_other, rfl, eL4, k, r_one, r_other⟩
    exact (et_test (em_op vo_gt (em_varf (i := 1) fl_int rfl r_other) em_int))
  · rintro ⟨one, other⟩ σ1 F1 H1 F H ⟨v_one, v_other, rfl, eL4, k, r_one, r_other⟩ e k
    exact ⟨_, _, rfl, eL4.trans e, k, rInt.up e r_one, rInt.up e r_other⟩
  · rintro ⟨one, other⟩ g2 σ1 F H ⟨v_one, v_other, rfl, eL4, k, r_one, r_other⟩ _ hm
    obtain ⟨⟨one_n, other_n⟩, hx, hm⟩ := bind_some hm
    obtain ⟨hx, hy⟩ := oP2_some hx
    refine a_par (em_varf (i := 1) fl_int rfl r_other) (em_op vo_mod (em_varf (i := 0) fl_int rfl r_one) (em_varf (i := 1) fl_int rfl r_other)) hx hy k fun v_one v_other F H e k r_one r_other => ?_
    obtain ⟨one, ez_⟩ : ∃ z, z = one_n := ⟨_, rfl⟩; subst ez_
    obtain ⟨other, ez_⟩ : ∃ z, z = other_n := ⟨_, rfl⟩; subst ez_
    have eL4 := eL4.trans e
    have hm := Option.some.inj hm
    subst hm
    exact ⟨F, v_one, v_other, rfl, eL4, k, r_one, r_other⟩
  obtain ⟨one, other⟩ := g1_
  rintro σ1 F H _ ⟨v_one, v_other, rfl, e, k, r_one, r_other⟩
  refine nxh ?_
  obtain ⟨rv, hv, hm⟩ := bind_some hm
  have hm := Option.some.inj hm
  cases hm
  exact a_ret (em_varf (i := 0) fl_int rfl r_one) hv k fun v F H e k r => hQ v F H k.dropAll r
abbrev s_divisor_of : Stmt := topS 17
abbrev N_divisor_of : List PySem.Str := ["values", "found", "value"]
theorem sc_divisor_of : FnScope N_divisor_of ["values"] (defScope s_divisor_of) := ⟨rfl, rfl, rfl, by decide +kernel, rfl, by decide +kernel, by decide +kernel⟩
def sp_divisor_of (K : PySem.W.Frag) : Sp := (Psp1 (rTup K rInt) rInt m_divisor_of)
theorem ok_divisor_of {P : Program} {w : World} {K : PySem.W.Frag} {mg : PySem.Str → Option Value} {base : Heap} (T : Txt mg) (L : ClsF K mg) (E_ : ErrF K mg erL) (C_common_divisor : Cal P w K mg base 1 "common_divisor" ["one", "other"] (sp_common_divisor K) (fun _ => True)) {f : Addr} {fd : FuncData} (Fn : FnP K "divisor_of" s_divisor_of f fd) : FnOk P w K mg base CX0 2 f fd ["values"] (sp_divisor_of K) := by
  obtain ⟨f_common_divisor, fd_common_divisor, G_common_divisor, g_common_divisor, kp_common_divisor, b_common_divisor, _⟩ := C_common_divisor.ex
  refine Fn.ok sc_divisor_of (fun vs H Q E h => Psp1_len h) (fun cdv A outer s H vs Q E hr h => ?_)
  obtain ⟨F, v_values, values, res, rfl, ex, r_values, hm, hQ⟩ := h
  have k := Cov.init ex
  generalize hc : Act.mk H F [] = c at k hQ
  unfold m_divisor_of at hm
  refine ⟨_, PSs.nox (pss_cons (ps_set (i := 1) sc_divisor_of.nd rfl (Or.inl rfl) pe_int) (pss_cons (ps_for PassesOwn.never rfl (pi_tupK K rfl (pv 0)) (pg_name (i := 2) sc_divisor_of.nd rfl (Or.inl rfl)) (pss_one (ps_set (i := 1) sc_divisor_of.nd rfl (Or.inl rfl) (pe_call G_common_divisor (hr.mono (by decide)) (by rfl) g_common_divisor kp_common_divisor b_common_divisor .nil pass0 (pa_cons (pv 1) (pa_cons (pv 2) pa_nil)))))) (pss_one (ps_ret (pv 1))))), ?_⟩
  show (_ : TS) _ [some v_values, none, none] _
  obtain ⟨found_n, hx, hm⟩ := bind_some hm
  refine q_set em_int hx k fun v_found F H e k r_found => ?_
  obtain ⟨found, ez_⟩ : ∃ z, z = found_n := ⟨_, rfl⟩; subst ez_
  show (_ : TS) _ [some v_values, some v_found, none] _
  have r_values := (rTup K rInt).up e r_values
  obtain ⟨l_, hl, hm⟩ := bind_some hm
  obtain ⟨g1_, hf, hm⟩ := bind_some hm
  refine sq ?_
  refine a_for (ei_tup (em_var (i := 0) rfl r_values)) hl k hf fun F H e k => ⟨fun g σ1 F1 H1 => ∃ v_found w_value, σ1 = [some v_values, some v_found, w_value] ∧ Ex F F1 ∧ Cov c F1 [] H1 ∧ rInt.r F1 v_found g, fun g => [], ?_, ?_, ?_, ?_⟩
  · exact ⟨v_found, _, rfl, Evl.Ex.refl _, k, rInt.up e r_found⟩
  · rintro g σ1 F1 H1 ⟨_, _, rfl, e1, k1, _⟩
    exact ⟨e1, k1⟩
  · rintro d v found g2 σ1 F1 H1 F H ⟨v_found, w_value, rfl, eL5, _, r_found⟩ e1 k rd hm
    have eL5 := eL5.trans e1
    have r_values := (rTup K rInt).up (e.trans eL5) r_values
    obtain ⟨value, ez_⟩ : ∃ z, z = d := ⟨_, rfl⟩; subst ez_
    obtain ⟨v_value, ez_⟩ : ∃ z, z = v := ⟨_, rfl⟩; subst ez_
    have r_value := rd
    refine gn (σ1 := [some v_values, some v_found, some v_value]) rfl ?_
    obtain ⟨found_n, hx, hm⟩ := bind_some hm
    refine a_set (em_Pcall2t (em_varf (i := 1) fl_int rfl r_found) (em_varf (i := 2) fl_int rfl r_value)) hx k fun v_found F H e k r_found => ?_
    obtain ⟨found, ez_⟩ : ∃ z, z = found_n := ⟨_, rfl⟩; subst ez_
    have r_values := (rTup K rInt).up e r_values
    have eL5 := eL5.trans e
    have hm := Option.some.inj hm
    subst hm
    exact ⟨F, v_found, _, rfl, eL5, k, r_found⟩
  obtain ⟨found, ez_⟩ : ∃ z, z = g1_ := ⟨_, rfl⟩; subst ez_
  rintro σ1 F H ⟨v_found, w_value, rfl, e1, k, r_found⟩
  have r_values := (rTup K rInt).up (e.trans e1) r_values
  refine nxh ?_
  obtain ⟨rv, hv, hm⟩ := bind_some hm
  have hm := Option.some.inj hm
  cases hm
  exact a_ret (em_varf (i := 1) fl_int rfl r_found) hv k fun v F H e k r => hQ v F H k.dropAll r
abbrev s_Line___init__ : Stmt := clsS 31 0
abbrev N_Line___init__ : List PySem.Str := ["self", "start", "step"]
theorem sc_Line___init__ : FnScope N_Line___init__ ["self", "start", "step"] (defScope s_Line___init__) := ⟨rfl, rfl, rfl, by decide +kernel, rfl, by decide +kernel, by decide +kernel⟩
def sp_Line___init__ (K : PySem.W.Frag) : Sp := (Ysp K erL (fun z => (cO2 (He.ga K "Line") "origin" "stride" (rTup K rInt) (rTup K rInt)) z) (gpC (rTup K rInt) (gpC (rTup K rInt) gpN)) rNon (fun s d => m_Line___init__ s d.1 d.2.1))
theorem ok_Line___init__ {P : Program} {w : World} {K : PySem.W.Frag} {mg : PySem.Str → Option Value} {base : Heap} (T : Txt mg) (L : ClsF K mg) (E_ : ErrF K mg erL) (C_ei : CalE P w K mg base erL) (C_divisor_of : Cal P w K mg base 2 "divisor_of" ["values"] (sp_divisor_of K) (fun _ => True)) {f : Addr} {fd : FuncData} (Fn : FnQ K "__init__" "Line.__init__" s_Line___init__ f fd) : FnOk P w K mg base (L2.CX P w) 3 f fd ["self", "start", "step"] (sp_Line___init__ K) := by
  obtain ⟨f_divisor_of, fd_divisor_of, G_divisor_of, g_divisor_of, kp_divisor_of, b_divisor_of, _⟩ := C_divisor_of.ex
  obtain ⟨fd_ei, G_ei, b_ei⟩ := C_ei.ex
  refine Fn.ok sc_Line___init__ (fun vs H Q E h => Ysp_len h) (fun cdv A outer s H vs Q E hr h => ?_)
  obtain ⟨F, p_self, ws_, self, ⟨start_, step, ⟨⟩⟩, res, rfl, k, ⟨v_start_, w0_, rfl, r_start_, v_step, w1_, rfl, r_step, rfl⟩, hm, hQ, hE⟩ := h
  have r_start_ : (rTup K rInt).r F v_start_ start_ := r_start_
  have r_step : (rTup K rInt).r F v_step step := r_step
  have hm : m_Line___init__ self start_ step = some res := hm
  generalize hc : Act.mk H F [p_self] = c at k hQ hE
  unfold m_Line___init__ at hm
  refine ⟨_, (pss_cons (ps_if (pt_cmpR (op_notIn_seqK K rfl) (pe_callB (call_len_seqK K rfl) (by rfl) T.b_len PySem.boot_len (pa_cons (pv 1) pa_nil)) (pe_tup (pa_cons pe_int (pa_cons pe_int pa_nil))) rfl) (pss_one (ps_raise rfl (takes_of rfl rfl rfl rfl) (pmk_oex (E_.oex _ er_InvalidPlace) (E_.ini _ er_InvalidPlace) E_.fnI G_ei (hr.mono (by decide)) b_ei .nil pass0 (by rfl) (E_.glo _ er_InvalidPlace) (pa_cons (pv 1) pa_nil)))) pss_nil) (pss_cons (ps_if (pt_cmpR op_ne (pe_callB (call_len_seqK K rfl) (by rfl) T.b_len PySem.boot_len (pa_cons (pv 2) pa_nil)) (pe_callB (call_len_seqK K rfl) (by rfl) T.b_len PySem.boot_len (pa_cons (pv 1) pa_nil)) (nomark _)) (pss_one (ps_raise rfl (takes_of rfl rfl rfl rfl) (pmk_oex (E_.oex _ er_InvalidPlace) (E_.ini _ er_InvalidPlace) E_.fnI G_ei (hr.mono (by decide)) b_ei .nil pass0 (by rfl) (E_.glo _ er_InvalidPlace) (pa_cons (pv 2) pa_nil)))) pss_nil) (pss_cons (ps_if (pt_cmpR op_ne (pe_call G_divisor_of (hr.mono (by decide)) (by rfl) g_divisor_of kp_divisor_of b_divisor_of .nil pass0 (pa_cons (pv 2) pa_nil)) pe_int (nomark _)) (pss_one (ps_raise rfl (takes_of rfl rfl rfl rfl) (pmk_oex (E_.oex _ er_InvalidStep) (E_.ini _ er_InvalidStep) E_.fnI G_ei (hr.mono (by decide)) b_ei .nil pass0 (by rfl) (E_.glo _ er_InvalidStep) (pa_cons (pv 2) pa_nil)))) pss_nil) (pss_cons (ps_fld (pv 0) (pv 1) (by rfl)) (pss_one (ps_fld (pv 0) (pv 2) (by rfl))))))), ?_⟩
  show (_ : TS) _ [some (.ref p_self), some v_start_, some v_step] _
  obtain ⟨b, hb, hm⟩ := bind_some hm
  refine q_ife (et_test (em_op vo_notInT (et_len (em_var (i := 1) rfl r_start_)) (em_tup (K := K) (ea_cons em_int (ea_cons em_int ea_nil))))) hb k (fun eb F H e k => ?_) (fun eb F H e k => ?_)
  ·
    subst eb
    have hm := hT hm
    have r_start_ := (rTup K rInt).up e r_start_
    have r_step := (rTup K rInt).up e r_step
    obtain ⟨p_, hx, hm⟩ := bind_some hm
    refine a_raise (W := fun cls d _ H => E cls d H) (σ := [some (.ref p_self), some v_start_, some v_step]) E_ er_InvalidPlace (pay := Pay.tup) py_tup (em_var (i := 1) rfl r_start_) hx k fun cls dd F H e k rE => ?_
    have r_start_ := (rTup K rInt).up e r_start_
    have r_step := (rTup K rInt).up e r_step
    have hm := Option.some.inj hm
    exact hE _ hm.symm cls dd F H k.dropAll rE
  ·
    subst eb
    have hm := hF hm
    have r_start_ := (rTup K rInt).up e r_start_
    have r_step := (rTup K rInt).up e r_step
    obtain ⟨b, hb, hm⟩ := bind_some hm
    refine q_ife (et_test (em_op vo_neI (et_len (em_var (i := 2) rfl r_step)) (et_len (em_var (i := 1) rfl r_start_)))) hb k (fun eb F H e k => ?_) (fun eb F H e k => ?_)
    ·
      subst eb
      have hm := hT hm
      have r_start_ := (rTup K rInt).up e r_start_
      have r_step := (rTup K rInt).up e r_step
      obtain ⟨p_, hx, hm⟩ := bind_some hm
      refine a_raise (W := fun cls d _ H => E cls d H) (σ := [some (.ref p_self), some v_start_, some v_step]) E_ er_InvalidPlace (pay := Pay.tup) py_tup (em_var (i := 2) rfl r_step) hx k fun cls dd F H e k rE => ?_
      have r_start_ := (rTup K rInt).up e r_start_
      have r_step := (rTup K rInt).up e r_step
      have hm := Option.some.inj hm
      exact hE _ hm.symm cls dd F H k.dropAll rE
    ·
      subst eb
      have hm := hF hm
      have r_start_ := (rTup K rInt).up e r_start_
      have r_step := (rTup K rInt).up e r_step
      obtain ⟨b, hb, hm⟩ := bind_some hm
      refine q_ife (et_test (em_op vo_neI (em_Pcall1t (em_var (i := 2) rfl r_step)) em_int)) hb k (fun eb F H e k => ?_) (fun eb F H e k => ?_)
      ·
        subst eb
        have hm := hT hm
        have r_start_ := (rTup K rInt).up e r_start_
        have r_step := (rTup K rInt).up e r_step
        obtain ⟨p_, hx, hm⟩ := bind_some hm
        refine a_raise (W := fun cls d _ H => E cls d H) (σ := [some (.ref p_self), some v_start_, some v_step]) E_ er_InvalidStep (pay := Pay.tup) py_tup (em_var (i := 2) rfl r_step) hx k fun cls dd F H e k rE => ?_
        have r_start_ := (rTup K rInt).up e r_start_
        have r_step := (rTup K rInt).up e r_step
        have hm := Option.some.inj hm
        exact hE _ hm.symm cls dd F H k.dropAll rE
      ·
        subst eb
        have hm := hF hm
        have r_start_ := (rTup K rInt).up e r_start_
        have r_step := (rTup K rInt).up e r_step
        obtain ⟨val, hx, hm⟩ := bind_some hm
        obtain ⟨self_n, hs, hm⟩ := bind_some hm
        refine q_put1 (i := 0) (j := 0) L.cl_Line L.na_Line_origin rfl rfl (em_var (i := 1) rfl r_start_) hx hs k fun F H e k => ?_
        obtain ⟨self, ez_⟩ : ∃ z, z = self_n := ⟨_, rfl⟩; subst ez_
        have r_start_ := (rTup K rInt).up e r_start_
        have r_step := (rTup K rInt).up e r_step
        have k : Cov c F [(p_self, (cO2 (He.ga K "Line") "origin" "stride" (rTup K rInt) (rTup K rInt)) self)] H := k
        obtain ⟨val, hx, hm⟩ := bind_some hm
        obtain ⟨self_n, hs, hm⟩ := bind_some hm
        refine a_put2 (i := 0) (j := 0) L.cl_Line L.na_Line_stride (by decide) rfl rfl (em_var (i := 2) rfl r_step) hx hs k fun F H e k => ?_
        obtain ⟨self, ez_⟩ : ∃ z, z = self_n := ⟨_, rfl⟩; subst ez_
        have r_start_ := (rTup K rInt).up e r_start_
        have r_step := (rTup K rInt).up e r_step
        have k : Cov c F [(p_self, (cO2 (He.ga K "Line") "origin" "stride" (rTup K rInt) (rTup K rInt)) self)] H := k
        cases hm
        exact hQ _ rfl _ _ _ (k.keepN 1) rfl
abbrev s_Line___eq__ : Stmt := clsS 31 11
abbrev N_Line___eq__ : List PySem.Str := ["self", "other"]
theorem sc_Line___eq__ : FnScope N_Line___eq__ ["self", "other"] (defScope s_Line___eq__) := ⟨rfl, rfl, rfl, by decide +kernel, rfl, by decide +kernel, by decide +kernel⟩
def sp_Line___eq__ (K : PySem.W.Frag) : Sp := (Psp2 (rO2 (He.ga K "Line") "origin" "stride" (rTup K rInt) (rTup K rInt)) (rO2 (He.ga K "Line") "origin" "stride" (rTup K rInt) (rTup K rInt)) rBool m_Line___eq__)
theorem ok_Line___eq__ {P : Program} {w : World} {K : PySem.W.Frag} {mg : PySem.Str → Option Value} {base : Heap} (T : Txt mg) (L : ClsF K mg) (E_ : ErrF K mg erL) {f : Addr} {fd : FuncData} (Fn : FnQ K "__eq__" "Line.__eq__" s_Line___eq__ f fd) : FnOk P w K mg base CX0 1 f fd ["self", "other"] (sp_Line___eq__ K) := by
  refine Fn.ok sc_Line___eq__ (fun vs H Q E h => Psp2_len h) (fun cdv A outer s H vs Q E hr h => ?_)
  obtain ⟨F, v_self, v_other, self, other, res, rfl, ex, r_self, r_other, hm, hQ⟩ := h
  have k := Cov.init ex
  generalize hc : Act.mk H F [] = c at k hQ
  unfold m_Line___eq__ at hm
  refine ⟨_, PSs.nox (pss_cons (ps_if (pt_not (pt_val (pe_callB (call_isiK2 K rfl) (by rfl) T.b_isinstance (by decide +kernel) (pa_cons (pv 1) (pa_cons (pe_glob (v := .ref (He.ga K "Line")) (by rfl) L.g_Line rfl) pa_nil))))) (pss_one (ps_ret pe_bl)) pss_nil) (pss_one (ps_ret (pe_and (pe_cmpR (op_eqDK K rfl hr.units) (pe_fldK K rfl (pv 0) (by rfl)) (pe_fldK K rfl (pv 1) (by rfl)) (nomark _)) (pe_one (pe_cmpR (op_eqDK K rfl hr.units) (pe_fldK K rfl (pv 0) (by rfl)) (pe_fldK K rfl (pv 1) (by rfl)) (nomark _))))))), ?_⟩
  show (_ : TS) _ [some v_self, some v_other] _
  obtain ⟨b, hb, hm⟩ := bind_some hm
  refine q_ife (et_not (et_B (em_isO objP_O2 L.in_Line (em_var (i := 1) rfl r_other)))) hb k (fun eb F H e k => ?_) (fun eb F H e k => ?_)
  ·
    subst eb
    have hm := hT hm
    have r_self := (rO2 (He.ga K "Line") "origin" "stride" (rTup K rInt) (rTup K rInt)).up e r_self
    have r_other := (rO2 (He.ga K "Line") "origin" "stride" (rTup K rInt) (rTup K rInt)).up e r_other
    obtain ⟨rv, hv, hm⟩ := bind_some hm
    have hm := Option.some.inj hm
    cases hm
    exact a_ret em_bl hv k fun v F H e k r => hQ v F H k.dropAll r
  ·
    subst eb
    have hm := hF hm
    have r_self := (rO2 (He.ga K "Line") "origin" "stride" (rTup K rInt) (rTup K rInt)).up e r_self
    have r_other := (rO2 (He.ga K "Line") "origin" "stride" (rTup K rInt) (rTup K rInt)).up e r_other
    obtain ⟨rv, hv, hm⟩ := bind_some hm
    have hm := Option.some.inj hm
    cases hm
    exact a_ret (em_andV (em_op (vo_eqD (dq_tup dq_int) (Nat.le_of_ble_eq_true rfl)) (em_fld1 L.cl_Line L.na_Line_origin (em_var (i := 0) rfl r_self)) (em_fld1 L.cl_Line L.na_Line_origin (em_var (i := 1) rfl r_other))) (em_op (vo_eqD (dq_tup dq_int) (Nat.le_of_ble_eq_true rfl)) (em_fld2 L.cl_Line L.na_Line_stride (by decide) (em_var (i := 0) rfl r_self)) (em_fld2 L.cl_Line L.na_Line_stride (by decide) (em_var (i := 1) rfl r_other)))) hv k fun v F H e k r => hQ v F H k.dropAll r
abbrev s_show_place : Stmt := topS 2
abbrev N_show_place : List PySem.Str := ["place", "value"]
theorem sc_show_place : FnScope N_show_place ["place"] (defScope s_show_place) := ⟨rfl, rfl, rfl, by decide +kernel, rfl, by decide +kernel, by decide +kernel⟩
def sp_show_place (K : PySem.W.Frag) : Sp := (Psp1 (rTup K rInt) rStr m_show_place)
theorem ok_show_place {P : Program} {w : World} {K : PySem.W.Frag} {mg : PySem.Str → Option Value} {base : Heap} (T : Txt mg) (L : ClsF K mg) (E_ : ErrF K mg erL) {f : Addr} {fd : FuncData} (Fn : FnP K "show_place" s_show_place f fd) : FnOk P w K mg base CX0 1 f fd ["place"] (sp_show_place K) := by
  refine Fn.ok sc_show_place (fun vs H Q E h => Psp1_len h) (fun cdv A outer s H vs Q E hr h => ?_)
  obtain ⟨F, v_place, place, res, rfl, ex, r_place, hm, hQ⟩ := h
  have k := Cov.init ex
  generalize hc : Act.mk H F [] = c at k hQ
  unfold m_show_place at hm
  refine ⟨_, PSs.nox (pss_one (ps_ret (pe_op op_add_str (pe_op op_add_str pe_str (pe_join pe_str (pe_lc (own := [("value", 1)]) (g := (gName 1)) (tt := tYes) rfl sc_show_place.nd (pi_tupK K rfl (pv 0)) (blkOk_by (N := N_show_place) (sc := defScope s_show_place) (by decide +kernel)) (fun _ _ _ _ _ => (pg_name (i := 1) sc_show_place.nd rfl (Or.inl rfl))) (fun _ _ _ _ _ => pts_nil) (fun _ _ _ _ _ => (pe_callTy call_str_int (by rfl) T.b_str (by decide +kernel) (pa_cons (pv 1) pa_nil)))))) pe_str))), ?_⟩
  show (_ : TS) _ [some v_place, none] _
  obtain ⟨rv, hv, hm⟩ := bind_some hm
  have hm := Option.some.inj hm
  cases hm
  exact a_ret (em_op vo_catS (em_op vo_catS em_str (em_joinL (K := K) em_str ((ef_lc (K := K) (t := yes) (f := fun (value : Int) => (o1 strI (some value))) (S := (fun d F1 σ2 => ∃ v_value, σ2 = [some v_place, some v_value] ∧ rInt.r F1 v_value d)) (ei_tup (em_var (i := 0) rfl r_place)) (gt_name (fun _ => rfl)) (fun d F1 σ2 hs => by obtain ⟨_, rfl, _⟩ := hs; rfl) (fun _ _ _ _ _ => et_yes) (by intro value F1 σ2 e1 hs; obtain ⟨v_value, rfl, r_value⟩ := hs; have r_place := (rTup K rInt).up e1 r_place; exact (em_cb vc_strI (em_varf (i := 1) fl_int rfl r_value))))).em)) em_str) hv k fun v F H e k r => hQ v F H k.dropAll r
abbrev s_Picture_size : Stmt := clsS 36 1
abbrev N_Picture_size : List PySem.Str := ["self"]
theorem sc_Picture_size : FnScope N_Picture_size ["self"] (defScope s_Picture_size) := ⟨rfl, rfl, rfl, by decide +kernel, rfl, by decide +kernel, by decide +kernel⟩
def sp_Picture_size (K : PySem.W.Frag) : Sp := (Psp1 (rO4 (He.ga K "Picture") "dimension" "words" "seen_places" "hidden_places" rInt (rDic rStr) (rLst (rTup K rInt)) (rLst (rTup K rInt))) rInt m_Picture_size)
theorem ok_Picture_size {P : Program} {w : World} {K : PySem.W.Frag} {mg : PySem.Str → Option Value} {base : Heap} (T : Txt mg) (L : ClsF K mg) (E_ : ErrF K mg erL) {f : Addr} {fd : FuncData} (Fn : FnQ K "size" "Picture.size" s_Picture_size f fd) : FnOk P w K mg base CX0 1 f fd ["self"] (sp_Picture_size K) := by
  refine Fn.ok sc_Picture_size (fun vs H Q E h => Psp1_len h) (fun cdv A outer s H vs Q E hr h => ?_)
  obtain ⟨F, v_self, self, res, rfl, ex, r_self, hm, hQ⟩ := h
  have k := Cov.init ex
  generalize hc : Act.mk H F [] = c at k hQ
  unfold m_Picture_size at hm
  refine ⟨_, PSs.nox (pss_one (ps_ret (pe_fldK K rfl (pv 0) (by rfl)))), ?_⟩
  show (_ : TS) _ [some v_self] _
  obtain ⟨rv, hv, hm⟩ := bind_some hm
  have hm := Option.some.inj hm
  cases hm
  exact a_ret (em_fld4_0 L.cl_Picture L.na_Picture_dimension (em_var (i := 0) rfl r_self)) hv k fun v F H e k r => hQ v F H k.dropAll r
abbrev s_Picture_seen : Stmt := clsS 36 2
abbrev N_Picture_seen : List PySem.Str := ["self"]
theorem sc_Picture_seen : FnScope N_Picture_seen ["self"] (defScope s_Picture_seen) := ⟨rfl, rfl, rfl, by decide +kernel, rfl, by decide +kernel, by decide +kernel⟩
def sp_Picture_seen (K : PySem.W.Frag) : Sp := (Fsp1 (rO4 (He.ga K "Picture") "dimension" "words" "seen_places" "hidden_places" rInt (rDic rStr) (rLst (rTup K rInt)) (rLst (rTup K rInt))) (rTup K rInt) m_Picture_seen)
theorem ok_Picture_seen {P : Program} {w : World} {K : PySem.W.Frag} {mg : PySem.Str → Option Value} {base : Heap} (T : Txt mg) (L : ClsF K mg) (E_ : ErrF K mg erL) {f : Addr} {fd : FuncData} (Fn : FnQ K "seen" "Picture.seen" s_Picture_seen f fd) : FnOk P w K mg base CX0 1 f fd ["self"] (sp_Picture_seen K) := by
  refine Fn.ok sc_Picture_seen (fun vs H Q E h => Fsp1_len h) (fun cdv A outer s H vs Q E hr h => ?_)
  obtain ⟨F, v_self, self, res, rfl, ex, r_self, hm, hQ⟩ := h
  have k := Cov.init ex
  generalize hc : Act.mk H F [] = c at k hQ
  unfold m_Picture_seen at hm
  refine ⟨_, PSs.nox (pss_one (ps_ret (pe_callTy (call_list_ofK K rfl) (by rfl) T.b_list (by decide +kernel) (pa_cons (pe_fldK K rfl (pv 0) (by rfl)) pa_nil)))), ?_⟩
  show (_ : TS) _ [some v_self] _
  obtain ⟨rv, hv, hm⟩ := bind_some hm
  have hm := Option.some.inj hm
  cases hm
  exact a_retF (ef_list ((em_fld4_2 L.cl_Picture L.na_Picture_seen_places (by decide) (by decide) (em_var (i := 0) rfl r_self))).el) hv k fun q F H e k => hQ q F H k.last1
abbrev s_Picture_hidden : Stmt := clsS 36 3
abbrev N_Picture_hidden : List PySem.Str := ["self"]
theorem sc_Picture_hidden : FnScope N_Picture_hidden ["self"] (defScope s_Picture_hidden) := ⟨rfl, rfl, rfl, by decide +kernel, rfl, by decide +kernel, by decide +kernel⟩
def sp_Picture_hidden (K : PySem.W.Frag) : Sp := (Fsp1 (rO4 (He.ga K "Picture") "dimension" "words" "seen_places" "hidden_places" rInt (rDic rStr) (rLst (rTup K rInt)) (rLst (rTup K rInt))) (rTup K rInt) m_Picture_hidden)
theorem ok_Picture_hidden {P : Program} {w : World} {K : PySem.W.Frag} {mg : PySem.Str → Option Value} {base : Heap} (T : Txt mg) (L : ClsF K mg) (E_ : ErrF K mg erL) {f : Addr} {fd : FuncData} (Fn : FnQ K "hidden" "Picture.hidden" s_Picture_hidden f fd) : FnOk P w K mg base CX0 1 f fd ["self"] (sp_Picture_hidden K) := by
  refine Fn.ok sc_Picture_hidden (fun vs H Q E h => Fsp1_len h) (fun cdv A outer s H vs Q E hr h => ?_)
  obtain ⟨F, v_self, self, res, rfl, ex, r_self, hm, hQ⟩ := h
  have k := Cov.init ex
  generalize hc : Act.mk H F [] = c at k hQ
  unfold m_Picture_hidden at hm
  refine ⟨_, PSs.nox (pss_one (ps_ret (pe_callTy (call_list_ofK K rfl) (by rfl) T.b_list (by decide +kernel) (pa_cons (pe_fldK K rfl (pv 0) (by rfl)) pa_nil)))), ?_⟩
  show (_ : TS) _ [some v_self] _
  obtain ⟨rv, hv, hm⟩ := bind_some hm
  have hm := Option.some.inj hm
  cases hm
  exact a_retF (ef_list ((em_fld4_3 L.cl_Picture L.na_Picture_hidden_places (by decide) (by decide) (by decide) (em_var (i := 0) rfl r_self))).el) hv k fun q F H e k => hQ q F H k.last1
abbrev s_show_picture : Stmt := topS 3
abbrev N_show_picture : List PySem.Str := ["picture", "words", "place"]
theorem sc_show_picture : FnScope N_show_picture ["picture"] (defScope s_show_picture) := ⟨rfl, rfl, rfl, by decide +kernel, rfl, by decide +kernel, by decide +kernel⟩
def sp_show_picture (K : PySem.W.Frag) : Sp := (Psp1 (rO4 (He.ga K "Picture") "dimension" "words" "seen_places" "hidden_places" rInt (rDic rStr) (rLst (rTup K rInt)) (rLst (rTup K rInt))) rStr m_show_picture)
theorem ok_show_picture {P : Program} {w : World} {K : PySem.W.Frag} {mg : PySem.Str → Option Value} {base : Heap} (T : Txt mg) (L : ClsF K mg) (E_ : ErrF K mg erL) (C_show_place : Cal P w K mg base 1 "show_place" ["place"] (sp_show_place K) (fun _ => True)) (C_Picture_size : CalP P w K mg base 1 (He.ga K "Picture") "size" ["self"] (sp_Picture_size K) (fun _ => True)) (C_Picture_seen : CalP P w K mg base 1 (He.ga K "Picture") "seen" ["self"] (sp_Picture_seen K) (fun _ => True)) (C_Picture_hidden : CalP P w K mg base 1 (He.ga K "Picture") "hidden" ["self"] (sp_Picture_hidden K) (fun _ => True)) {f : Addr} {fd : FuncData} (Fn : FnP K "show_picture" s_show_picture f fd) : FnOk P w K mg base CX0 3 f fd ["picture"] (sp_show_picture K) := by
  obtain ⟨f_show_place, fd_show_place, G_show_place, g_show_place, kp_show_place, b_show_place, _⟩ := C_show_place.ex
  obtain ⟨f_Picture_size, fd_Picture_size, p_Picture_size, G_Picture_size, P_Picture_size, b_Picture_size, _⟩ := C_Picture_size.ex
  obtain ⟨f_Picture_seen, fd_Picture_seen, p_Picture_seen, G_Picture_seen, P_Picture_seen, b_Picture_seen, _⟩ := C_Picture_seen.ex
  obtain ⟨f_Picture_hidden, fd_Picture_hidden, p_Picture_hidden, G_Picture_hidden, P_Picture_hidden, b_Picture_hidden, _⟩ := C_Picture_hidden.ex
  refine Fn.ok sc_show_picture (fun vs H Q E h => Psp1_len h) (fun cdv A outer s H vs Q E hr h => ?_)
  obtain ⟨F, v_picture, picture, res, rfl, ex, r_picture, hm, hQ⟩ := h
  have k := Cov.init ex
  generalize hc : Act.mk H F [] = c at k hQ
  unfold m_show_picture at hm
  refine ⟨_, PSs.nox (pss_cons (ps_set (i := 1) sc_show_picture.nd rfl (Or.inl rfl) (pe_lst (pa_cons (pe_callTy call_str_int (by rfl) T.b_str (by decide +kernel) (pa_cons (pe_prop (pv 0) L.cl_Picture P_Picture_size G_Picture_size (hr.mono (by decide)) b_Picture_size .nil pass0 (by rfl)) pa_nil)) (pa_cons pe_str pa_nil)))) (pss_cons (ps_expr (pe_bm PySem.F.plainAttrs_list PySem.F.slot_list_extend PySem.F.type_list_extend mt_extend (pv 1) (pa_cons (pe_lc (own := [("place", 2)]) (g := (gName 2)) (tt := tYes) rfl sc_show_picture.nd (pi_listK K rfl (pe_prop (pv 0) L.cl_Picture P_Picture_seen G_Picture_seen (hr.mono (by decide)) b_Picture_seen .nil pass0 (by rfl))) (blkOk_by (N := N_show_picture) (sc := defScope s_show_picture) (by decide +kernel)) (fun _ _ _ _ _ => (pg_name (i := 2) sc_show_picture.nd rfl (Or.inl rfl))) (fun _ _ _ _ _ => pts_nil) (fun _ _ _ _ _ => (pe_call G_show_place (hr.mono (by decide)) (by rfl) g_show_place kp_show_place b_show_place .nil pass0 (pa_cons (pv 2) pa_nil)))) pa_nil))) (pss_cons (ps_expr (pe_bm PySem.F.plainAttrs_list PySem.F.slot_list_append PySem.F.type_list_append mt_append (pv 1) (pa_cons pe_str pa_nil))) (pss_cons (ps_expr (pe_bm PySem.F.plainAttrs_list PySem.F.slot_list_extend PySem.F.type_list_extend mt_extend (pv 1) (pa_cons (pe_lc (own := [("place", 2)]) (g := (gName 2)) (tt := tYes) rfl sc_show_picture.nd (pi_listK K rfl (pe_prop (pv 0) L.cl_Picture P_Picture_hidden G_Picture_hidden (hr.mono (by decide)) b_Picture_hidden .nil pass0 (by rfl))) (blkOk_by (N := N_show_picture) (sc := defScope s_show_picture) (by decide +kernel)) (fun _ _ _ _ _ => (pg_name (i := 2) sc_show_picture.nd rfl (Or.inl rfl))) (fun _ _ _ _ _ => pts_nil) (fun _ _ _ _ _ => (pe_call G_show_place (hr.mono (by decide)) (by rfl) g_show_place kp_show_place b_show_place .nil pass0 (pa_cons (pv 2) pa_nil)))) pa_nil))) (pss_one (ps_ret (pe_join pe_str (pv 1)))))))), ?_⟩
  show (_ : TS) _ [some v_picture, none, none] _
  obtain ⟨words_n, hx, hm⟩ := bind_some hm
  refine q_setF (ef_lst (ea_cons (em_cb vc_strI (em_prop objP_O4 (em_var (i := 0) rfl r_picture))) (ea_cons em_str ea_nil))) hx k fun p_words F H e k n_words => ?_
  obtain ⟨words, ez_⟩ : ∃ z, z = words_n := ⟨_, rfl⟩; subst ez_
  show (_ : TS) _ [some v_picture, some (.ref p_words), none] _
  have r_picture := (rO4 (He.ga K "Picture") "dimension" "words" "seen_places" "hidden_places" rInt (rDic rStr) (rLst (rTup K rInt)) (rLst (rTup K rInt))).up e r_picture
  obtain ⟨val, hx, hm⟩ := bind_some hm
  obtain ⟨words_n, hs, hm⟩ := bind_some hm
  refine q_ext (i := 1) (j := 0) rfl rfl ((ef_lc (K := K) (t := yes) (f := fun (place : (List Int)) => (m_show_place place)) (S := (fun d F1 σ2 => ∃ v_place, σ2 = [some v_picture, some (.ref p_words), some v_place] ∧ (rTup K rInt).r F1 v_place d)) (ei_list ((em_propF objP_O4 (em_var (i := 0) rfl r_picture))).em) (gt_name (fun _ => rfl)) (fun d F1 σ2 hs => by obtain ⟨_, rfl, _⟩ := hs; rfl) (fun _ _ _ _ _ => et_yes) (by intro place F1 σ2 e1 hs; obtain ⟨v_place, rfl, r_place⟩ := hs; have r_picture := (rO4 (He.ga K "Picture") "dimension" "words" "seen_places" "hidden_places" rInt (rDic rStr) (rLst (rTup K rInt)) (rLst (rTup K rInt))).up e1 r_picture; exact (em_Pcall1t (em_var (i := 2) rfl r_place))))).em.es hx hs k fun F H e k => ?_
  obtain ⟨words, ez_⟩ : ∃ z, z = words_n := ⟨_, rfl⟩; subst ez_
  have r_picture := (rO4 (He.ga K "Picture") "dimension" "words" "seen_places" "hidden_places" rInt (rDic rStr) (rLst (rTup K rInt)) (rLst (rTup K rInt))).up e r_picture
  have k : Cov c F [(p_words, cLst rStr words)] H := k
  obtain ⟨val, hx, hm⟩ := bind_some hm
  obtain ⟨words_n, hs, hm⟩ := bind_some hm
  obtain ⟨hs, hz⟩ := appG_some hs
  refine q_app (i := 1) (j := 0) rfl rfl em_str hx hz k fun F H e k => ?_
  rw [← hs] at k
  obtain ⟨words, ez_⟩ : ∃ z, z = words_n := ⟨_, rfl⟩; subst ez_
  have r_picture := (rO4 (He.ga K "Picture") "dimension" "words" "seen_places" "hidden_places" rInt (rDic rStr) (rLst (rTup K rInt)) (rLst (rTup K rInt))).up e r_picture
  have k : Cov c F [(p_words, cLst rStr words)] H := k
  obtain ⟨val, hx, hm⟩ := bind_some hm
  obtain ⟨words_n, hs, hm⟩ := bind_some hm
  refine q_ext (i := 1) (j := 0) rfl rfl ((ef_lc (K := K) (t := yes) (f := fun (place : (List Int)) => (m_show_place place)) (S := (fun d F1 σ2 => ∃ v_place, σ2 = [some v_picture, some (.ref p_words), some v_place] ∧ (rTup K rInt).r F1 v_place d)) (ei_list ((em_propF objP_O4 (em_var (i := 0) rfl r_picture))).em) (gt_name (fun _ => rfl)) (fun d F1 σ2 hs => by obtain ⟨_, rfl, _⟩ := hs; rfl) (fun _ _ _ _ _ => et_yes) (by intro place F1 σ2 e1 hs; obtain ⟨v_place, rfl, r_place⟩ := hs; have r_picture := (rO4 (He.ga K "Picture") "dimension" "words" "seen_places" "hidden_places" rInt (rDic rStr) (rLst (rTup K rInt)) (rLst (rTup K rInt))).up e1 r_picture; exact (em_Pcall1t (em_var (i := 2) rfl r_place))))).em.es hx hs k fun F H e k => ?_
  obtain ⟨words, ez_⟩ : ∃ z, z = words_n := ⟨_, rfl⟩; subst ez_
  have r_picture := (rO4 (He.ga K "Picture") "dimension" "words" "seen_places" "hidden_places" rInt (rDic rStr) (rLst (rTup K rInt)) (rLst (rTup K rInt))).up e r_picture
  have k : Cov c F [(p_words, cLst rStr words)] H := k
  obtain ⟨F, e, k, rz_⟩ := k.frzL 0 rfl n_words
  have r_words : ((rLst rStr)).r F (.ref p_words) words := rz_
  have r_picture := (rO4 (He.ga K "Picture") "dimension" "words" "seen_places" "hidden_places" rInt (rDic rStr) (rLst (rTup K rInt)) (rLst (rTup K rInt))).up e r_picture
  have k : Cov c F [] H := k
  obtain ⟨rv, hv, hm⟩ := bind_some hm
  have hm := Option.some.inj hm
  cases hm
  exact a_ret (em_joinL (K := K) em_str (em_var (i := 1) rfl r_words)) hv k fun v F H e k r => hQ v F H k.dropAll r
abbrev s_Line_start : Stmt := clsS 31 1
abbrev N_Line_start : List PySem.Str := ["self"]
theorem sc_Line_start : FnScope N_Line_start ["self"] (defScope s_Line_start) := ⟨rfl, rfl, rfl, by decide +kernel, rfl, by decide +kernel, by decide +kernel⟩
def sp_Line_start (K : PySem.W.Frag) : Sp := (Psp1 (rO2 (He.ga K "Line") "origin" "stride" (rTup K rInt) (rTup K rInt)) (rTup K rInt) m_Line_start)
theorem ok_Line_start {P : Program} {w : World} {K : PySem.W.Frag} {mg : PySem.Str → Option Value} {base : Heap} (T : Txt mg) (L : ClsF K mg) (E_ : ErrF K mg erL) {f : Addr} {fd : FuncData} (Fn : FnQ K "start" "Line.start" s_Line_start f fd) : FnOk P w K mg base CX0 1 f fd ["self"] (sp_Line_start K) := by
  refine Fn.ok sc_Line_start (fun vs H Q E h => Psp1_len h) (fun cdv A outer s H vs Q E hr h => ?_)
  obtain ⟨F, v_self, self, res, rfl, ex, r_self, hm, hQ⟩ := h
  have k := Cov.init ex
  generalize hc : Act.mk H F [] = c at k hQ
  unfold m_Line_start at hm
  refine ⟨_, PSs.nox (pss_one (ps_ret (pe_fldK K rfl (pv 0) (by rfl)))), ?_⟩
  show (_ : TS) _ [some v_self] _
  obtain ⟨rv, hv, hm⟩ := bind_some hm
  have hm := Option.some.inj hm
  cases hm
  exact a_ret (em_fld1 L.cl_Line L.na_Line_origin (em_var (i := 0) rfl r_self)) hv k fun v F H e k r => hQ v F H k.dropAll r
abbrev s_Line_step : Stmt := clsS 31 2
abbrev N_Line_step : List PySem.Str := ["self"]
theorem sc_Line_step : FnScope N_Line_step ["self"] (defScope s_Line_step) := ⟨rfl, rfl, rfl, by decide +kernel, rfl, by decide +kernel, by decide +kernel⟩
def sp_Line_step (K : PySem.W.Frag) : Sp := (Psp1 (rO2 (He.ga K "Line") "origin" "stride" (rTup K rInt) (rTup K rInt)) (rTup K rInt) m_Line_step)
theorem ok_Line_step {P : Program} {w : World} {K : PySem.W.Frag} {mg : PySem.Str → Option Value} {base : Heap} (T : Txt mg) (L : ClsF K mg) (E_ : ErrF K mg erL) {f : Addr} {fd : FuncData} (Fn : FnQ K "step" "Line.step" s_Line_step f fd) : FnOk P w K mg base CX0 1 f fd ["self"] (sp_Line_step K) := by
  refine Fn.ok sc_Line_step (fun vs H Q E h => Psp1_len h) (fun cdv A outer s H vs Q E hr h => ?_)
  obtain ⟨F, v_self, self, res, rfl, ex, r_self, hm, hQ⟩ := h
  have k := Cov.init ex
  generalize hc : Act.mk H F [] = c at k hQ
  unfold m_Line_step at hm
  refine ⟨_, PSs.nox (pss_one (ps_ret (pe_fldK K rfl (pv 0) (by rfl)))), ?_⟩
  show (_ : TS) _ [some v_self] _
  obtain ⟨rv, hv, hm⟩ := bind_some hm
  have hm := Option.some.inj hm
  cases hm
  exact a_ret (em_fld2 L.cl_Line L.na_Line_stride (by decide) (em_var (i := 0) rfl r_self)) hv k fun v F H e k r => hQ v F H k.dropAll r
abbrev s_show_line : Stmt := topS 4
abbrev N_show_line : List PySem.Str := ["line"]
theorem sc_show_line : FnScope N_show_line ["line"] (defScope s_show_line) := ⟨rfl, rfl, rfl, by decide +kernel, rfl, by decide +kernel, by decide +kernel⟩
def sp_show_line (K : PySem.W.Frag) : Sp := (Psp1 (rO2 (He.ga K "Line") "origin" "stride" (rTup K rInt) (rTup K rInt)) rStr m_show_line)
theorem ok_show_line {P : Program} {w : World} {K : PySem.W.Frag} {mg : PySem.Str → Option Value} {base : Heap} (T : Txt mg) (L : ClsF K mg) (E_ : ErrF K mg erL) (C_show_place : Cal P w K mg base 1 "show_place" ["place"] (sp_show_place K) (fun _ => True)) (C_Line_start : CalP P w K mg base 1 (He.ga K "Line") "start" ["self"] (sp_Line_start K) (fun _ => True)) (C_Line_step : CalP P w K mg base 1 (He.ga K "Line") "step" ["self"] (sp_Line_step K) (fun _ => True)) {f : Addr} {fd : FuncData} (Fn : FnP K "show_line" s_show_line f fd) : FnOk P w K mg base CX0 3 f fd ["line"] (sp_show_line K) := by
  obtain ⟨f_show_place, fd_show_place, G_show_place, g_show_place, kp_show_place, b_show_place, _⟩ := C_show_place.ex
  obtain ⟨f_Line_start, fd_Line_start, p_Line_start, G_Line_start, P_Line_start, b_Line_start, _⟩ := C_Line_start.ex
  obtain ⟨f_Line_step, fd_Line_step, p_Line_step, G_Line_step, P_Line_step, b_Line_step, _⟩ := C_Line_step.ex
  refine Fn.ok sc_show_line (fun vs H Q E h => Psp1_len h) (fun cdv A outer s H vs Q E hr h => ?_)
  obtain ⟨F, v_line_, line_, res, rfl, ex, r_line_, hm, hQ⟩ := h
  have k := Cov.init ex
  generalize hc : Act.mk H F [] = c at k hQ
  unfold m_show_line at hm
  refine ⟨_, PSs.nox (pss_one (ps_ret (pe_joined (.cons (pe_fmt (pe_call G_show_place (hr.mono (by decide)) (by rfl) g_show_place kp_show_place b_show_place .nil pass0 (pa_cons (pe_prop (pv 0) L.cl_Line P_Line_start G_Line_start (hr.mono (by decide)) b_Line_start .nil pass0 (by rfl)) pa_nil))) (.cons pe_str (.cons (pe_fmt (pe_call G_show_place (hr.mono (by decide)) (by rfl) g_show_place kp_show_place b_show_place .nil pass0 (pa_cons (pe_prop (pv 0) L.cl_Line P_Line_step G_Line_step (hr.mono (by decide)) b_Line_step .nil pass0 (by rfl)) pa_nil))) .nil)))))), ?_⟩
  show (_ : TS) _ [some v_line_] _
  obtain ⟨rv, hv, hm⟩ := bind_some hm
  have hm := Option.some.inj hm
  cases hm
  exact a_ret (em_fstr (ej_cons (em_fmtS (em_Pcall1 (em_prop objP_O2 (em_var (i := 0) rfl r_line_)))) (ej_cons em_str (ej_cons (em_fmtS (em_Pcall1 (em_prop objP_O2 (em_var (i := 0) rfl r_line_)))) ej_nil)))) hv k fun v F H e k r => hQ v F H k.dropAll r
abbrev s_plus : Stmt := topS 18
abbrev N_plus : List PySem.Str := ["one", "other", "k"]
theorem sc_plus : FnScope N_plus ["one", "other"] (defScope s_plus) := ⟨rfl, rfl, rfl, by decide +kernel, rfl, by decide +kernel, by decide +kernel⟩
def sp_plus (K : PySem.W.Frag) : Sp := (Psp2 (rTup K rInt) (rTup K rInt) (rTup K rInt) m_plus)
theorem ok_plus {P : Program} {w : World} {K : PySem.W.Frag} {mg : PySem.Str → Option Value} {base : Heap} (T : Txt mg) (L : ClsF K mg) (E_ : ErrF K mg erL) {f : Addr} {fd : FuncData} (Fn : FnP K "plus" s_plus f fd) : FnOk P w K mg base CX0 1 f fd ["one", "other"] (sp_plus K) := by
  refine Fn.ok sc_plus (fun vs H Q E h => Psp2_len h) (fun cdv A outer s H vs Q E hr h => ?_)
  obtain ⟨F, v_one, v_other, one, other, res, rfl, ex, r_one, r_other, hm, hQ⟩ := h
  have k := Cov.init ex
  generalize hc : Act.mk H F [] = c at k hQ
  unfold m_plus at hm
  refine ⟨_, PSs.nox (pss_one (ps_ret (pe_callTy (call_tuple_ofK K rfl) (by rfl) T.b_tuple (by decide +kernel) (pa_cons (pe_lc (own := [("k", 2)]) (g := (gName 2)) (tt := tYes) rfl sc_plus.nd (pi_range1 (by rfl) T.b_range (pa_cons (pe_callB (call_len_seqK K rfl) (by rfl) T.b_len PySem.boot_len (pa_cons (pv 0) pa_nil)) pa_nil)) (blkOk_by (N := N_plus) (sc := defScope s_plus) (by decide +kernel)) (fun _ _ _ _ _ => (pg_name (i := 2) sc_plus.nd rfl (Or.inl rfl))) (fun _ _ _ _ _ => pts_nil) (fun _ _ _ _ _ => (pe_op op_add (pe_ix (ix_tupK K rfl) (pv 0) (pv 2) (fun _ _ => rfl)) (pe_ix (ix_tupK K rfl) (pv 1) (pv 2) (fun _ _ => rfl))))) pa_nil)))), ?_⟩
  show (_ : TS) _ [some v_one, some v_other, none] _
  obtain ⟨rv, hv, hm⟩ := bind_some hm
  have hm := Option.some.inj hm
  cases hm
  exact a_ret (el_tuple ((ef_lc (K := K) (t := yes) (f := fun (k_ : Int) => (o2 addG (o2 ixG (some one) (some k_)) (o2 ixG (some other) (some k_)))) (S := (fun d F1 σ2 => ∃ v_k_, σ2 = [some v_one, some v_other, some v_k_] ∧ rInt.r F1 v_k_ d)) (ei_rng1 (et_len (em_var (i := 0) rfl r_one))) (gt_name (fun _ => rfl)) (fun d F1 σ2 hs => by obtain ⟨_, rfl, _⟩ := hs; rfl) (fun _ _ _ _ _ => et_yes) (by intro k_ F1 σ2 e1 hs; obtain ⟨v_k_, rfl, r_k_⟩ := hs; have r_one := (rTup K rInt).up e1 r_one; have r_other := (rTup K rInt).up e1 r_other; exact (em_op vo_add (et_ix (em_var (i := 0) rfl r_one) (em_varf (i := 2) fl_int rfl r_k_)) (et_ix (em_var (i := 1) rfl r_other) (em_varf (i := 2) fl_int rfl r_k_)))))).em.el) hv k fun v F H e k r => hQ v F H k.dropAll r
abbrev s_determinant : Stmt := topS 33
abbrev N_determinant : List PySem.Str := ["rows", "total", "k", "left", "right"]
theorem sc_determinant : FnScope N_determinant ["rows"] (defScope s_determinant) := ⟨rfl, rfl, rfl, by decide +kernel, rfl, by decide +kernel, by decide +kernel⟩
def sp_determinant (K : PySem.W.Frag) : Sp := (Psp1 (rLst (rLst rInt)) rInt m_determinant)
theorem ok_determinant {P : Program} {w : World} {K : PySem.W.Frag} {mg : PySem.Str → Option Value} {base : Heap} (T : Txt mg) (L : ClsF K mg) (E_ : ErrF K mg erL) {f : Addr} {fd : FuncData} (Fn : FnP K "determinant" s_determinant f fd) : FnOk P w K mg base CX0 1 f fd ["rows"] (sp_determinant K) := by
  refine Fn.ok sc_determinant (fun vs H Q E h => Psp1_len h) (fun cdv A outer s H vs Q E hr h => ?_)
  obtain ⟨F, v_rows, rows, res, rfl, ex, r_rows, hm, hQ⟩ := h
  have k := Cov.init ex
  generalize hc : Act.mk H F [] = c at k hQ
  unfold m_determinant at hm
  refine ⟨_, PSs.nox (pss_cons (ps_if (pt_cmpR op_eq (pe_callB (call_len_seqK K rfl) (by rfl) T.b_len PySem.boot_len (pa_cons (pv 0) pa_nil)) pe_int (nomark _)) (pss_one (ps_ret (pe_op op_sub (pe_op op_mulI (pe_ix (ix_listK K rfl) (pe_ix (ix_listK K rfl) (pv 0) pe_int (fun _ _ => rfl)) pe_int (fun _ _ => rfl)) (pe_ix (ix_listK K rfl) (pe_ix (ix_listK K rfl) (pv 0) pe_int (fun _ _ => rfl)) pe_int (fun _ _ => rfl))) (pe_op op_mulI (pe_ix (ix_listK K rfl) (pe_ix (ix_listK K rfl) (pv 0) pe_int (fun _ _ => rfl)) pe_int (fun _ _ => rfl)) (pe_ix (ix_listK K rfl) (pe_ix (ix_listK K rfl) (pv 0) pe_int (fun _ _ => rfl)) pe_int (fun _ _ => rfl)))))) pss_nil) (pss_cons (ps_set (i := 1) sc_determinant.nd rfl (Or.inl rfl) pe_int) (pss_cons (ps_for PassesOwn.never rfl (pi_range1 (by rfl) T.b_range (pa_cons pe_int pa_nil)) (pg_name (i := 2) sc_determinant.nd rfl (Or.inl rfl)) (pss_cons (ps_par (i := 3) (j := 4) (by rfl) sc_determinant.nd rfl rfl (by decide) rfl rfl (pa_cons (pe_op op_mod (pe_op op_add (pv 2) pe_int) pe_int) (pa_cons (pe_op op_mod (pe_op op_add (pv 2) pe_int) pe_int) pa_nil)) (by rfl)) (pss_one (ps_aug (i := 1) sc_determinant.nd rfl (Or.inl rfl) (pe_op op_mulI (pe_ix (ix_listK K rfl) (pe_ix (ix_listK K rfl) (pv 0) pe_int (fun _ _ => rfl)) (pv 2) (fun _ _ => rfl)) (pe_op op_sub (pe_op op_mulI (pe_ix (ix_listK K rfl) (pe_ix (ix_listK K rfl) (pv 0) pe_int (fun _ _ => rfl)) (pv 3) (fun _ _ => rfl)) (pe_ix (ix_listK K rfl) (pe_ix (ix_listK K rfl) (pv 0) pe_int (fun _ _ => rfl)) (pv 4) (fun _ _ => rfl))) (pe_op op_mulI (pe_ix (ix_listK K rfl) (pe_ix (ix_listK K rfl) (pv 0) pe_int (fun _ _ => rfl)) (pv 4) (fun _ _ => rfl)) (pe_ix (ix_listK K rfl) (pe_ix (ix_listK K rfl) (pv 0) pe_int (fun _ _ => rfl)) (pv 3) (fun _ _ => rfl))))) ip_add)))) (pss_one (ps_ret (pv 1)))))), ?_⟩
  show (_ : TS) _ [some v_rows, none, none, none, none] _
  obtain ⟨b, hb, hm⟩ := bind_some hm
  refine q_ife (et_test (em_op vo_eqI (el_len ((em_var (i := 0) rfl r_rows)).el) em_int)) hb k (fun eb F H e k => ?_) (fun eb F H e k => ?_)
  ·
    subst eb
    have hm := hT hm
    have r_rows := (rLst (rLst rInt)).up e r_rows
    obtain ⟨rv, hv, hm⟩ := bind_some hm
    have hm := Option.some.inj hm
    cases hm
    exact a_ret (em_op vo_sub (em_op vo_mul (el_ix ((el_ix ((em_var (i := 0) rfl r_rows)).el em_int)).el em_int) (el_ix ((el_ix ((em_var (i := 0) rfl r_rows)).el em_int)).el em_int)) (em_op vo_mul (el_ix ((el_ix ((em_var (i := 0) rfl r_rows)).el em_int)).el em_int) (el_ix ((el_ix ((em_var (i := 0) rfl r_rows)).el em_int)).el em_int))) hv k fun v F H e k r => hQ v F H k.dropAll r
  ·
    subst eb
    have hm := hF hm
    have r_rows := (rLst (rLst rInt)).up e r_rows
    obtain ⟨total_n, hx, hm⟩ := bind_some hm
    refine q_set em_int hx k fun v_total F H e k r_total => ?_
    obtain ⟨total, ez_⟩ : ∃ z, z = total_n := ⟨_, rfl⟩; subst ez_
    show (_ : TS) _ [some v_rows, some v_total, none, none, none] _
    have r_rows := (rLst (rLst rInt)).up e r_rows
    obtain ⟨l_, hl, hm⟩ := bind_some hm
    obtain ⟨g1_, hf, hm⟩ := bind_some hm
    refine sq ?_
    refine a_for (ei_rng1 em_int) hl k hf fun F H e k => ⟨fun g σ1 F1 H1 => ∃ v_total w_left w_right w_k_, σ1 = [some v_rows, some v_total, w_k_, w_left, w_right] ∧ Ex F F1 ∧ Cov c F1 [] H1 ∧ rInt.r F1 v_total g, fun g => [], ?_, ?_, ?_, ?_⟩
    · exact ⟨v_total, _, _, _, rfl, Evl.Ex.refl _, k, rInt.up e r_total⟩
    · rintro g σ1 F1 H1 ⟨_, _, _, _, rfl, e1, k1, _⟩
      exact ⟨e1, k1⟩
    · rintro d v total g2 σ1 F1 H1 F H ⟨v_total, w_left, w_right, w_k_, rfl, eL6, _, r_total⟩ e1 k rd hm
      have eL6 := eL6.trans e1
      have r_rows := (rLst (rLst rInt)).up (e.trans eL6) r_rows
      obtain ⟨k_, ez_⟩ : ∃ z, z = d := ⟨_, rfl⟩; subst ez_
      obtain ⟨v_k_, ez_⟩ : ∃ z, z = v := ⟨_, rfl⟩; subst ez_
      have r_k_ := rd
      refine gn (σ1 := [some v_rows, some v_total, some v_k_, w_left, w_right]) rfl ?_
      obtain ⟨⟨left_n, right_n⟩, hx, hm⟩ := bind_some hm
      obtain ⟨hx, hy⟩ := oP2_some hx
      refine q_par (em_op vo_mod (em_op vo_add (em_varf (i := 2) fl_int rfl r_k_) em_int) em_int) (em_op vo_mod (em_op vo_add (em_varf (i := 2) fl_int rfl r_k_) em_int) em_int) hx hy k fun v_left v_right F H e k r_left r_right => ?_
      obtain ⟨left, ez_⟩ : ∃ z, z = left_n := ⟨_, rfl⟩; subst ez_
      obtain ⟨right, ez_⟩ : ∃ z, z = right_n := ⟨_, rfl⟩; subst ez_
      show (_ : TS) _ [some v_rows, some v_total, some v_k_, some v_left, some v_right] _
      have r_rows := (rLst (rLst rInt)).up e r_rows
      have eL6 := eL6.trans e
      obtain ⟨by_, hx, hm⟩ := bind_some hm
      obtain ⟨total_n, hy, hm⟩ := bind_some hm
      have hy := Option.some.inj hy
      refine a_aug (i := 1) rfl r_total (em_op vo_mul (el_ix ((el_ix ((em_var (i := 0) rfl r_rows)).el em_int)).el (em_varf (i := 2) fl_int rfl r_k_)) (em_op vo_sub (em_op vo_mul (el_ix ((el_ix ((em_var (i := 0) rfl r_rows)).el em_int)).el (em_varf (i := 3) fl_int rfl r_left)) (el_ix ((el_ix ((em_var (i := 0) rfl r_rows)).el em_int)).el (em_varf (i := 4) fl_int rfl r_right))) (em_op vo_mul (el_ix ((el_ix ((em_var (i := 0) rfl r_rows)).el em_int)).el (em_varf (i := 4) fl_int rfl r_right)) (el_ix ((el_ix ((em_var (i := 0) rfl r_rows)).el em_int)).el (em_varf (i := 3) fl_int rfl r_left))))) hx k fun v_total F H e k r_total => ?_
      rw [hy] at r_total
      obtain ⟨total, ez_⟩ : ∃ z, z = total_n := ⟨_, rfl⟩; subst ez_
      have r_rows := (rLst (rLst rInt)).up e r_rows
      have eL6 := eL6.trans e
      have hm := Option.some.inj hm
      subst hm
      exact ⟨F, v_total, _, _, _, rfl, eL6, k, r_total⟩
    obtain ⟨total, ez_⟩ : ∃ z, z = g1_ := ⟨_, rfl⟩; subst ez_
    rintro σ1 F H ⟨v_total, w_left, w_right, w_k_, rfl, e1, k, r_total⟩
    have r_rows := (rLst (rLst rInt)).up (e.trans e1) r_rows
    refine nxh ?_
    obtain ⟨rv, hv, hm⟩ := bind_some hm
    have hm := Option.some.inj hm
    cases hm
    exact a_ret (em_varf (i := 1) fl_int rfl r_total) hv k fun v F H e k r => hQ v F H k.dropAll r
abbrev s_keeps_posts : Stmt := topS 34
abbrev N_keeps_posts : List PySem.Str := ["rows", "size", "row"]
theorem sc_keeps_posts : FnScope N_keeps_posts ["rows", "size"] (defScope s_keeps_posts) := ⟨rfl, rfl, rfl, by decide +kernel, rfl, by decide +kernel, by decide +kernel⟩
def sp_keeps_posts (K : PySem.W.Frag) : Sp := (Psp2 (rLst (rLst rInt)) rInt rBool m_keeps_posts)
theorem ok_keeps_posts {P : Program} {w : World} {K : PySem.W.Frag} {mg : PySem.Str → Option Value} {base : Heap} (T : Txt mg) (L : ClsF K mg) (E_ : ErrF K mg erL) (C_determinant : Cal P w K mg base 1 "determinant" ["rows"] (sp_determinant K) (fun _ => True)) {f : Addr} {fd : FuncData} (Fn : FnP K "keeps_posts" s_keeps_posts f fd) : FnOk P w K mg base CX0 2 f fd ["rows", "size"] (sp_keeps_posts K) := by
  obtain ⟨f_determinant, fd_determinant, G_determinant, g_determinant, kp_determinant, b_determinant, _⟩ := C_determinant.ex
  refine Fn.ok sc_keeps_posts (fun vs H Q E h => Psp2_len h) (fun cdv A outer s H vs Q E hr h => ?_)
  obtain ⟨F, v_rows, v_size, rows, size, res, rfl, ex, r_rows, r_size, hm, hQ⟩ := h
  have k := Cov.init ex
  generalize hc : Act.mk H F [] = c at k hQ
  unfold m_keeps_posts at hm
  refine ⟨_, PSs.nox (pss_cons (ps_if (pt_cmpR op_ne (pe_callB (call_len_seqK K rfl) (by rfl) T.b_len PySem.boot_len (pa_cons (pv 0) pa_nil)) (pv 1) (nomark _)) (pss_one (ps_ret pe_bl)) pss_nil) (pss_cons (ps_for PassesOwn.never rfl (pi_listK K rfl (pv 0)) (pg_name (i := 2) sc_keeps_posts.nd rfl (Or.inl rfl)) (pss_one (ps_if (pt_cmpR op_ne (pe_callB (call_len_seqK K rfl) (by rfl) T.b_len PySem.boot_len (pa_cons (pv 2) pa_nil)) (pv 1) (nomark _)) (pss_one (ps_ret pe_bl)) pss_nil))) (pss_one (ps_ret (pe_cmpR (op_in_seqK K rfl) (pe_call G_determinant (hr.mono (by decide)) (by rfl) g_determinant kp_determinant b_determinant .nil pass0 (pa_cons (pv 0) pa_nil)) (pe_tup (pa_cons pe_int (pa_cons (pe_un un_neg pe_int) pa_nil))) rfl))))), ?_⟩
  show (_ : TS) _ [some v_rows, some v_size, none] _
  obtain ⟨b, hb, hm⟩ := bind_some hm
  refine q_ife (et_test (em_op vo_neI (el_len ((em_var (i := 0) rfl r_rows)).el) (em_varf (i := 1) fl_int rfl r_size))) hb k (fun eb F H e k => ?_) (fun eb F H e k => ?_)
  ·
    subst eb
    have hm := hT hm
    have r_rows := (rLst (rLst rInt)).up e r_rows
    obtain ⟨rv, hv, hm⟩ := bind_some hm
    have hm := Option.some.inj hm
    cases hm
    exact a_ret em_bl hv k fun v F H e k r => hQ v F H k.dropAll r
  ·
    subst eb
    have hm := hF hm
    have r_rows := (rLst (rLst rInt)).up e r_rows
    obtain ⟨l_, hl, hm⟩ := bind_some hm
    obtain ⟨out1, hf, hm⟩ := bind_some hm
    have hm1 := hm
    refine sq ?_
    refine a_loop (ei_list (em_var (i := 0) rfl r_rows)) hl k hf fun F H e k => ⟨fun g σ1 F1 H1 => ∃ w_row, σ1 = [some v_rows, some v_size, w_row] ∧ Ex F F1 ∧ Cov c F1 [] H1, fun g => [], ?_, ?_, ?_, ?_⟩
    · exact ⟨_, rfl, Evl.Ex.refl _, k⟩
    · rintro g σ1 F1 H1 ⟨_, rfl, e1, k1⟩
      exact ⟨e1, k1⟩
    · rintro d v ⟨⟩ oo1 σ1 F1 H1 F H ⟨w_row, rfl, eL7, _⟩ e1 k rd hm hret1 hbrk1
      have eL7 := eL7.trans e1
      have r_rows := (rLst (rLst rInt)).up (e.trans eL7) r_rows
      obtain ⟨row, ez_⟩ : ∃ z, z = d := ⟨_, rfl⟩; subst ez_
      obtain ⟨v_row, ez_⟩ : ∃ z, z = v := ⟨_, rfl⟩; subst ez_
      have r_row := rd
      refine gn (σ1 := [some v_rows, some v_size, some v_row]) rfl ?_
      obtain ⟨b, hb, hm⟩ := bind_some hm
      refine a_if (et_test (em_op vo_neI (el_len ((em_var (i := 2) rfl r_row)).el) (em_varf (i := 1) fl_int rfl r_size))) hb k (fun eb F H e k => ?_) (fun eb F H e k => ?_)
      ·
        subst eb
        have hm := hT hm
        have r_rows := (rLst (rLst rInt)).up e r_rows
        have r_row := (rLst rInt).up e r_row
        have eL7 := eL7.trans e
        obtain ⟨rv, hv, hm⟩ := bind_some hm
        have hm := Option.some.inj hm
        subst hm
        have ho1 := hret1 _ rfl
        rw [ho1] at hm1
        have hm := Option.some.inj hm1
        cases hm
        exact a_ret em_bl hv k fun v F H e k r => hQ v F H k.dropAll r
      ·
        subst eb
        have hm := hF hm
        have r_rows := (rLst (rLst rInt)).up e r_rows
        have r_row := (rLst rInt).up e r_row
        have eL7 := eL7.trans e
        show Ends.nx _ _ _
        have hm := Option.some.inj hm
        subst hm
        exact ⟨F, _, rfl, _, rfl, eL7, k⟩
    rintro ⟨⟩ σ1 F H eo ⟨w_row, rfl, e1, k⟩
    subst eo
    have r_rows := (rLst (rLst rInt)).up (e.trans e1) r_rows
    refine nxh ?_
    obtain ⟨rv, hv, hm⟩ := bind_some hm
    have hm := Option.some.inj hm
    cases hm
    exact a_ret (em_op vo_inT (em_Pcall1t (em_var (i := 0) rfl r_rows)) (em_tup (K := K) (ea_cons em_int (ea_cons (em_un vu_neg em_int) ea_nil)))) hv k fun v F H e k r => hQ v F H k.dropAll r
abbrev s_image : Stmt := topS 35
abbrev N_image : List PySem.Str := ["rows", "place", "found", "row", "k"]
theorem sc_image : FnScope N_image ["rows", "place"] (defScope s_image) := ⟨rfl, rfl, rfl, by decide +kernel, rfl, by decide +kernel, by decide +kernel⟩
def sp_image (K : PySem.W.Frag) : Sp := (Psp2 (rLst (rLst rInt)) (rTup K rInt) (rTup K rInt) m_image)
theorem ok_image {P : Program} {w : World} {K : PySem.W.Frag} {mg : PySem.Str → Option Value} {base : Heap} (T : Txt mg) (L : ClsF K mg) (E_ : ErrF K mg erL) {f : Addr} {fd : FuncData} (Fn : FnP K "image" s_image f fd) : FnOk P w K mg base CX0 1 f fd ["rows", "place"] (sp_image K) := by
  refine Fn.ok sc_image (fun vs H Q E h => Psp2_len h) (fun cdv A outer s H vs Q E hr h => ?_)
  obtain ⟨F, v_rows, v_place, rows, place, res, rfl, ex, r_rows, r_place, hm, hQ⟩ := h
  have k := Cov.init ex
  generalize hc : Act.mk H F [] = c at k hQ
  unfold m_image at hm
  refine ⟨_, PSs.nox (pss_cons (ps_set (i := 2) sc_image.nd rfl (Or.inl rfl) (pe_lst pa_nil)) (pss_cons (ps_for PassesOwn.never rfl (pi_listK K rfl (pv 0)) (pg_name (i := 3) sc_image.nd rfl (Or.inr rfl)) (pss_one (ps_expr (pe_bm PySem.F.plainAttrs_list PySem.F.slot_list_append PySem.F.type_list_append mt_append (pv 2) (pa_cons (pe_callB (cr_sumK K rfl rfl) (by rfl) T.b_sum (by decide +kernel) (pa_cons (pe_lc (own := [("k", 4)]) (g := (gName 4)) (tt := tYes) rfl sc_image.nd (pi_range1 (by rfl) T.b_range (pa_cons (pe_callB (call_len_seqK K rfl) (by rfl) T.b_len PySem.boot_len (pa_cons (pv 1) pa_nil)) pa_nil)) (blkOk_by (N := N_image) (sc := defScope s_image) (by decide +kernel)) (fun _ _ _ _ _ => (pg_name (i := 4) sc_image.nd rfl (Or.inl rfl))) (fun _ _ _ _ _ => pts_nil) (fun _ _ _ _ _ => (pe_op op_mulI (pe_ix (ix_listK K rfl) (pv 3) (pv 4) (fun _ _ => rfl)) (pe_ix (ix_tupK K rfl) (pv 1) (pv 4) (fun _ _ => rfl))))) pa_nil)) pa_nil))))) (pss_one (ps_ret (pe_callTy (call_tuple_ofK K rfl) (by rfl) T.b_tuple (by decide +kernel) (pa_cons (pv 2) pa_nil)))))), ?_⟩
  show (_ : TS) _ [some v_rows, some v_place, none, none, none] _
  obtain ⟨found_n, hx, hm⟩ := bind_some hm
  refine q_setF (ef_lst (ra := rInt) ea_nil) hx k fun p_found F H e k n_found => ?_
  obtain ⟨found, ez_⟩ : ∃ z, z = found_n := ⟨_, rfl⟩; subst ez_
  show (_ : TS) _ [some v_rows, some v_place, some (.ref p_found), none, none] _
  have r_rows := (rLst (rLst rInt)).up e r_rows
  have r_place := (rTup K rInt).up e r_place
  obtain ⟨l_, hl, hm⟩ := bind_some hm
  obtain ⟨g1_, hf, hm⟩ := bind_some hm
  refine sq ?_
  refine a_for (ei_list (em_var (i := 0) rfl r_rows)) hl k hf fun F H e k => ⟨fun g σ1 F1 H1 => ∃ w_row, σ1 = [some v_rows, some v_place, some (.ref p_found), w_row, none] ∧ Ex F F1 ∧ Cov c F1 [(p_found, cLst rInt g)] H1, fun g => [(p_found, cLst rInt g)], ?_, ?_, ?_, ?_⟩
  · exact ⟨_, rfl, Evl.Ex.refl _, k⟩
  · rintro g σ1 F1 H1 ⟨_, rfl, e1, k1⟩
    exact ⟨e1, k1⟩
  · rintro d v found g2 σ1 F1 H1 F H ⟨w_row, rfl, eL8, _⟩ e1 k rd hm
    have eL8 := eL8.trans e1
    have r_rows := (rLst (rLst rInt)).up (e.trans eL8) r_rows
    have r_place := (rTup K rInt).up (e.trans eL8) r_place
    obtain ⟨row, ez_⟩ : ∃ z, z = d := ⟨_, rfl⟩; subst ez_
    obtain ⟨v_row, ez_⟩ : ∃ z, z = v := ⟨_, rfl⟩; subst ez_
    have r_row := rd
    refine gn (σ1 := [some v_rows, some v_place, some (.ref p_found), some v_row, none]) rfl ?_
    obtain ⟨val, hx, hm⟩ := bind_some hm
    obtain ⟨found_n, hs, hm⟩ := bind_some hm
    obtain ⟨hs, hz⟩ := appG_some hs
    refine a_app (i := 2) (j := 0) rfl rfl (em_sumL ((ef_lc (K := K) (t := yes) (f := fun (k_ : Int) => (o2 mulG (o2 ixG (some row) (some k_)) (o2 ixG (some place) (some k_)))) (S := (fun d F1 σ2 => ∃ v_k_, σ2 = [some v_rows, some v_place, some (.ref p_found), some v_row, some v_k_] ∧ rInt.r F1 v_k_ d)) (ei_rng1 (et_len (em_var (i := 1) rfl r_place))) (gt_name (fun _ => rfl)) (fun d F1 σ2 hs => by obtain ⟨_, rfl, _⟩ := hs; rfl) (fun _ _ _ _ _ => et_yes) (by intro k_ F1 σ2 e1 hs; obtain ⟨v_k_, rfl, r_k_⟩ := hs; have r_rows := (rLst (rLst rInt)).up e1 r_rows; have r_place := (rTup K rInt).up e1 r_place; have r_row := (rLst rInt).up e1 r_row; exact (em_op vo_mul (el_ix ((em_var (i := 3) rfl r_row)).el (em_varf (i := 4) fl_int rfl r_k_)) (et_ix (em_var (i := 1) rfl r_place) (em_varf (i := 4) fl_int rfl r_k_)))))).em.el) hx hz k fun F H e k => ?_
    rw [← hs] at k
    obtain ⟨found, ez_⟩ : ∃ z, z = found_n := ⟨_, rfl⟩; subst ez_
    have r_rows := (rLst (rLst rInt)).up e r_rows
    have r_place := (rTup K rInt).up e r_place
    have r_row := (rLst rInt).up e r_row
    have eL8 := eL8.trans e
    have k : Cov c F [(p_found, cLst rInt found)] H := k
    have hm := Option.some.inj hm
    subst hm
    exact ⟨F, _, rfl, eL8, k⟩
  obtain ⟨found, ez_⟩ : ∃ z, z = g1_ := ⟨_, rfl⟩; subst ez_
  rintro σ1 F H ⟨w_row, rfl, e1, k⟩
  have r_rows := (rLst (rLst rInt)).up (e.trans e1) r_rows
  have r_place := (rTup K rInt).up (e.trans e1) r_place
  refine nxh ?_
  obtain ⟨F, e, k, rz_⟩ := k.frzL 0 rfl n_found
  have r_found : ((rLst rInt)).r F (.ref p_found) found := rz_
  have r_rows := (rLst (rLst rInt)).up e r_rows
  have r_place := (rTup K rInt).up e r_place
  have k : Cov c F [] H := k
  obtain ⟨rv, hv, hm⟩ := bind_some hm
  have hm := Option.some.inj hm
  cases hm
  exact a_ret (el_tuple ((em_var (i := 2) rfl r_found)).el) hv k fun v F H e k r => hQ v F H k.dropAll r
abbrev s_Picture_shifted : Stmt := clsS 36 4
abbrev N_Picture_shifted : List PySem.Str := ["self", "shift", "seen", "place"]
theorem sc_Picture_shifted : FnScope N_Picture_shifted ["self", "shift"] (defScope s_Picture_shifted) := ⟨rfl, rfl, rfl, by decide +kernel, rfl, by decide +kernel, by decide +kernel⟩
def sp_Picture_shifted (K : PySem.W.Frag) : Sp := (Psp2 (rO4 (He.ga K "Picture") "dimension" "words" "seen_places" "hidden_places" rInt (rDic rStr) (rLst (rTup K rInt)) (rLst (rTup K rInt))) (rTup K rInt) (rO4 (He.ga K "Picture") "dimension" "words" "seen_places" "hidden_places" rInt (rDic rStr) (rLst (rTup K rInt)) (rLst (rTup K rInt))) m_Picture_shifted)
theorem ok_Picture_shifted {P : Program} {w : World} {K : PySem.W.Frag} {mg : PySem.Str → Option Value} {base : Heap} (T : Txt mg) (L : ClsF K mg) (E_ : ErrF K mg erL) (C_Picture___init__ : CalI P w K mg base 1 (He.ga K "Picture") ["self", "size", "seen", "hidden"] (sp_Picture___init__ K) (fun _ => True)) (C_plus : Cal P w K mg base 1 "plus" ["one", "other"] (sp_plus K) (fun _ => True)) {f : Addr} {fd : FuncData} (Fn : FnQ K "shifted" "Picture.shifted" s_Picture_shifted f fd) : FnOk P w K mg base CX0 3 f fd ["self", "shift"] (sp_Picture_shifted K) := by
  obtain ⟨f_Picture___init__, fd_Picture___init__, G_Picture___init__, M_Picture___init__, b_Picture___init__, _⟩ := C_Picture___init__.ex
  obtain ⟨f_plus, fd_plus, G_plus, g_plus, kp_plus, b_plus, _⟩ := C_plus.ex
  refine Fn.ok sc_Picture_shifted (fun vs H Q E h => Psp2_len h) (fun cdv A outer s H vs Q E hr h => ?_)
  obtain ⟨F, v_self, v_shift, self, shift, res, rfl, ex, r_self, r_shift, hm, hQ⟩ := h
  have k := Cov.init ex
  generalize hc : Act.mk H F [] = c at k hQ
  unfold m_Picture_shifted at hm
  refine ⟨_, PSs.nox (pss_cons (ps_if (pt_cmpR op_ne (pe_callB (call_len_seqK K rfl) (by rfl) T.b_len PySem.boot_len (pa_cons (pv 1) pa_nil)) (pe_fldK K rfl (pv 0) (by rfl)) (nomark _)) (pss_one ps_never) pss_nil) (pss_cons (ps_setLc (i := 2) (own := [("place", 3)]) (g := (gName 3)) (tt := tYes) rfl sc_Picture_shifted.nd rfl rfl (sw_true rfl rfl rfl (by decide +kernel)) (pi_listK K rfl (pe_fldK K rfl (pv 0) (by rfl))) (blkOk_by (N := N_Picture_shifted) (sc := defScope s_Picture_shifted) (by decide +kernel)) (fun _ _ _ _ _ => (pg_name (i := 3) sc_Picture_shifted.nd rfl (Or.inl rfl))) (fun _ _ _ _ _ => pts_nil) (fun _ _ _ _ _ => (pe_call G_plus (hr.mono (by decide)) (by rfl) g_plus kp_plus b_plus .nil pass0 (pa_cons (pv 3) (pa_cons (pv 1) pa_nil))))) (pss_one (ps_ret (pe_make M_Picture___init__ G_Picture___init__ (hr.mono (by decide)) (by rfl) L.g_Picture b_Picture___init__ .nil pass0 (pa_cons (pe_fldK K rfl (pv 0) (by rfl)) (pa_cons (pv 2) (pa_cons (pe_lc (own := [("place", 3)]) (g := (gName 3)) (tt := tYes) rfl sc_Picture_shifted.nd (pi_listK K rfl (pe_fldK K rfl (pv 0) (by rfl))) (blkOk_by (N := N_Picture_shifted) (sc := defScope s_Picture_shifted) (by decide +kernel)) (fun _ _ _ _ _ => (pg_name (i := 3) sc_Picture_shifted.nd rfl (Or.inl rfl))) (fun _ _ _ _ _ => pts_nil) (fun _ _ _ _ _ => (pe_call G_plus (hr.mono (by decide)) (by rfl) g_plus kp_plus b_plus .nil pass0 (pa_cons (pv 3) (pa_cons (pv 1) pa_nil))))) pa_nil)))))))), ?_⟩
  show (_ : TS) _ [some v_self, some v_shift, none, none] _
  obtain ⟨b, hb, hm⟩ := bind_some hm
  refine q_ife (et_test (em_op vo_neI (et_len (em_var (i := 1) rfl r_shift)) (em_fld4_0 L.cl_Picture L.na_Picture_dimension (em_var (i := 0) rfl r_self)))) hb k (fun eb F H e k => ?_) (fun eb F H e k => ?_)
  ·
    subst eb
    have hm := hT hm
    have r_self := (rO4 (He.ga K "Picture") "dimension" "words" "seen_places" "hidden_places" rInt (rDic rStr) (rLst (rTup K rInt)) (rLst (rTup K rInt))).up e r_self
    have r_shift := (rTup K rInt).up e r_shift
    cases hm
  ·
    subst eb
    have hm := hF hm
    have r_self := (rO4 (He.ga K "Picture") "dimension" "words" "seen_places" "hidden_places" rInt (rDic rStr) (rLst (rTup K rInt)) (rLst (rTup K rInt))).up e r_self
    have r_shift := (rTup K rInt).up e r_shift
    obtain ⟨seen_n, hx, hm⟩ := bind_some hm
    refine q_set ((ef_lc (K := K) (t := yes) (f := fun (place : (List Int)) => (m_plus place shift)) (S := (fun d F1 σ2 => ∃ v_place, σ2 = [some v_self, some v_shift, none, some v_place] ∧ (rTup K rInt).r F1 v_place d)) (ei_list (em_fld4_2 L.cl_Picture L.na_Picture_seen_places (by decide) (by decide) (em_var (i := 0) rfl r_self))) (gt_name (fun _ => rfl)) (fun d F1 σ2 hs => by obtain ⟨_, rfl, _⟩ := hs; rfl) (fun _ _ _ _ _ => et_yes) (by intro place F1 σ2 e1 hs; obtain ⟨v_place, rfl, r_place⟩ := hs; have r_self := (rO4 (He.ga K "Picture") "dimension" "words" "seen_places" "hidden_places" rInt (rDic rStr) (rLst (rTup K rInt)) (rLst (rTup K rInt))).up e1 r_self; have r_shift := (rTup K rInt).up e1 r_shift; exact (em_Pcall2t (em_var (i := 3) rfl r_place) (em_var (i := 1) rfl r_shift))))).em hx k fun v_seen F H e k r_seen => ?_
    obtain ⟨seen, ez_⟩ : ∃ z, z = seen_n := ⟨_, rfl⟩; subst ez_
    show (_ : TS) _ [some v_self, some v_shift, some v_seen, none] _
    have r_self := (rO4 (He.ga K "Picture") "dimension" "words" "seen_places" "hidden_places" rInt (rDic rStr) (rLst (rTup K rInt)) (rLst (rTup K rInt))).up e r_self
    have r_shift := (rTup K rInt).up e r_shift
    obtain ⟨rv, hv, hm⟩ := bind_some hm
    have hm := Option.some.inj hm
    cases hm
    exact a_ret (em_make4_3 (em_fld4_0 L.cl_Picture L.na_Picture_dimension (em_var (i := 0) rfl r_self)) (em_var (i := 2) rfl r_seen) ((ef_lc (K := K) (t := yes) (f := fun (place : (List Int)) => (m_plus place shift)) (S := (fun d F1 σ2 => ∃ v_place, σ2 = [some v_self, some v_shift, some v_seen, some v_place] ∧ (rTup K rInt).r F1 v_place d)) (ei_list (em_fld4_3 L.cl_Picture L.na_Picture_hidden_places (by decide) (by decide) (by decide) (em_var (i := 0) rfl r_self))) (gt_name (fun _ => rfl)) (fun d F1 σ2 hs => by obtain ⟨_, rfl, _⟩ := hs; rfl) (fun _ _ _ _ _ => et_yes) (by intro place F1 σ2 e1 hs; obtain ⟨v_place, rfl, r_place⟩ := hs; have r_self := (rO4 (He.ga K "Picture") "dimension" "words" "seen_places" "hidden_places" rInt (rDic rStr) (rLst (rTup K rInt)) (rLst (rTup K rInt))).up e1 r_self; have r_shift := (rTup K rInt).up e1 r_shift; have r_seen := (rLst (rTup K rInt)).up e1 r_seen; exact (em_Pcall2t (em_var (i := 3) rfl r_place) (em_var (i := 1) rfl r_shift))))).em) hv k fun v F H e k r => hQ v F H k.dropAll r
abbrev s_Picture_mapped : Stmt := clsS 36 5
abbrev N_Picture_mapped : List PySem.Str := ["self", "rows", "seen", "place", "row"]
theorem sc_Picture_mapped : FnScope N_Picture_mapped ["self", "rows"] (defScope s_Picture_mapped) := ⟨rfl, rfl, rfl, by decide +kernel, rfl, by decide +kernel, by decide +kernel⟩
def sp_Picture_mapped (K : PySem.W.Frag) : Sp := (Psp2 (rO4 (He.ga K "Picture") "dimension" "words" "seen_places" "hidden_places" rInt (rDic rStr) (rLst (rTup K rInt)) (rLst (rTup K rInt))) (rLst (rLst rInt)) (rO4 (He.ga K "Picture") "dimension" "words" "seen_places" "hidden_places" rInt (rDic rStr) (rLst (rTup K rInt)) (rLst (rTup K rInt))) m_Picture_mapped)
theorem ok_Picture_mapped {P : Program} {w : World} {K : PySem.W.Frag} {mg : PySem.Str → Option Value} {base : Heap} (T : Txt mg) (L : ClsF K mg) (E_ : ErrF K mg erL) (C_Picture___init__ : CalI P w K mg base 1 (He.ga K "Picture") ["self", "size", "seen", "hidden"] (sp_Picture___init__ K) (fun _ => True)) (C_keeps_posts : Cal P w K mg base 2 "keeps_posts" ["rows", "size"] (sp_keeps_posts K) (fun _ => True)) (C_image : Cal P w K mg base 1 "image" ["rows", "place"] (sp_image K) (fun _ => True)) {f : Addr} {fd : FuncData} (Fn : FnQ K "mapped" "Picture.mapped" s_Picture_mapped f fd) : FnOk P w K mg base CX0 3 f fd ["self", "rows"] (sp_Picture_mapped K) := by
  obtain ⟨f_Picture___init__, fd_Picture___init__, G_Picture___init__, M_Picture___init__, b_Picture___init__, _⟩ := C_Picture___init__.ex
  obtain ⟨f_keeps_posts, fd_keeps_posts, G_keeps_posts, g_keeps_posts, kp_keeps_posts, b_keeps_posts, _⟩ := C_keeps_posts.ex
  obtain ⟨f_image, fd_image, G_image, g_image, kp_image, b_image, _⟩ := C_image.ex
  refine Fn.ok sc_Picture_mapped (fun vs H Q E h => Psp2_len h) (fun cdv A outer s H vs Q E hr h => ?_)
  obtain ⟨F, v_self, v_rows, self, rows, res, rfl, ex, r_self, r_rows, hm, hQ⟩ := h
  have k := Cov.init ex
  generalize hc : Act.mk H F [] = c at k hQ
  unfold m_Picture_mapped at hm
  refine ⟨_, PSs.nox (pss_cons (ps_if (pt_not (pt_val (pe_call G_keeps_posts (hr.mono (by decide)) (by rfl) g_keeps_posts kp_keeps_posts b_keeps_posts .nil pass0 (pa_cons (pv 1) (pa_cons (pe_fldK K rfl (pv 0) (by rfl)) pa_nil))))) (pss_one ps_never) pss_nil) (pss_cons (ps_setLc (i := 2) (own := [("place", 3)]) (g := (gName 3)) (tt := tYes) rfl sc_Picture_mapped.nd rfl rfl (sw_true rfl rfl rfl (by decide +kernel)) (pi_listK K rfl (pe_fldK K rfl (pv 0) (by rfl))) (blkOk_by (N := N_Picture_mapped) (sc := defScope s_Picture_mapped) (by decide +kernel)) (fun _ _ _ _ _ => (pg_name (i := 3) sc_Picture_mapped.nd rfl (Or.inl rfl))) (fun _ _ _ _ _ => pts_nil) (fun _ _ _ _ _ => (pe_call G_image (hr.mono (by decide)) (by rfl) g_image kp_image b_image .nil pass0 (pa_cons (pv 1) (pa_cons (pv 3) pa_nil))))) (pss_one (ps_ret (pe_make M_Picture___init__ G_Picture___init__ (hr.mono (by decide)) (by rfl) L.g_Picture b_Picture___init__ .nil pass0 (pa_cons (pe_fldK K rfl (pv 0) (by rfl)) (pa_cons (pv 2) (pa_cons (pe_lc (own := [("place", 3)]) (g := (gName 3)) (tt := tYes) rfl sc_Picture_mapped.nd (pi_listK K rfl (pe_fldK K rfl (pv 0) (by rfl))) (blkOk_by (N := N_Picture_mapped) (sc := defScope s_Picture_mapped) (by decide +kernel)) (fun _ _ _ _ _ => (pg_name (i := 3) sc_Picture_mapped.nd rfl (Or.inl rfl))) (fun _ _ _ _ _ => pts_nil) (fun _ _ _ _ _ => (pe_call G_image (hr.mono (by decide)) (by rfl) g_image kp_image b_image .nil pass0 (pa_cons (pv 1) (pa_cons (pv 3) pa_nil))))) pa_nil)))))))), ?_⟩
  show (_ : TS) _ [some v_self, some v_rows, none, none, none] _
  obtain ⟨b, hb, hm⟩ := bind_some hm
  refine q_ife (et_not (et_B (em_Pcall2t (em_var (i := 1) rfl r_rows) (em_fld4_0 L.cl_Picture L.na_Picture_dimension (em_var (i := 0) rfl r_self))))) hb k (fun eb F H e k => ?_) (fun eb F H e k => ?_)
  ·
    subst eb
    have hm := hT hm
    have r_self := (rO4 (He.ga K "Picture") "dimension" "words" "seen_places" "hidden_places" rInt (rDic rStr) (rLst (rTup K rInt)) (rLst (rTup K rInt))).up e r_self
    have r_rows := (rLst (rLst rInt)).up e r_rows
    cases hm
  ·
    subst eb
    have hm := hF hm
    have r_self := (rO4 (He.ga K "Picture") "dimension" "words" "seen_places" "hidden_places" rInt (rDic rStr) (rLst (rTup K rInt)) (rLst (rTup K rInt))).up e r_self
    have r_rows := (rLst (rLst rInt)).up e r_rows
    obtain ⟨seen_n, hx, hm⟩ := bind_some hm
    refine q_set ((ef_lc (K := K) (t := yes) (f := fun (place : (List Int)) => (m_image rows place)) (S := (fun d F1 σ2 => ∃ v_place, σ2 = [some v_self, some v_rows, none, some v_place, none] ∧ (rTup K rInt).r F1 v_place d)) (ei_list (em_fld4_2 L.cl_Picture L.na_Picture_seen_places (by decide) (by decide) (em_var (i := 0) rfl r_self))) (gt_name (fun _ => rfl)) (fun d F1 σ2 hs => by obtain ⟨_, rfl, _⟩ := hs; rfl) (fun _ _ _ _ _ => et_yes) (by intro place F1 σ2 e1 hs; obtain ⟨v_place, rfl, r_place⟩ := hs; have r_self := (rO4 (He.ga K "Picture") "dimension" "words" "seen_places" "hidden_places" rInt (rDic rStr) (rLst (rTup K rInt)) (rLst (rTup K rInt))).up e1 r_self; have r_rows := (rLst (rLst rInt)).up e1 r_rows; exact (em_Pcall2t (em_var (i := 1) rfl r_rows) (em_var (i := 3) rfl r_place))))).em hx k fun v_seen F H e k r_seen => ?_
    obtain ⟨seen, ez_⟩ : ∃ z, z = seen_n := ⟨_, rfl⟩; subst ez_
    show (_ : TS) _ [some v_self, some v_rows, some v_seen, none, none] _
    have r_self := (rO4 (He.ga K "Picture") "dimension" "words" "seen_places" "hidden_places" rInt (rDic rStr) (rLst (rTup K rInt)) (rLst (rTup K rInt))).up e r_self
    have r_rows := (rLst (rLst rInt)).up e r_rows
    obtain ⟨rv, hv, hm⟩ := bind_some hm
    have hm := Option.some.inj hm
    cases hm
    exact a_ret (em_make4_3 (em_fld4_0 L.cl_Picture L.na_Picture_dimension (em_var (i := 0) rfl r_self)) (em_var (i := 2) rfl r_seen) ((ef_lc (K := K) (t := yes) (f := fun (place : (List Int)) => (m_image rows place)) (S := (fun d F1 σ2 => ∃ v_place, σ2 = [some v_self, some v_rows, some v_seen, some v_place, none] ∧ (rTup K rInt).r F1 v_place d)) (ei_list (em_fld4_3 L.cl_Picture L.na_Picture_hidden_places (by decide) (by decide) (by decide) (em_var (i := 0) rfl r_self))) (gt_name (fun _ => rfl)) (fun d F1 σ2 hs => by obtain ⟨_, rfl, _⟩ := hs; rfl) (fun _ _ _ _ _ => et_yes) (by intro place F1 σ2 e1 hs; obtain ⟨v_place, rfl, r_place⟩ := hs; have r_self := (rO4 (He.ga K "Picture") "dimension" "words" "seen_places" "hidden_places" rInt (rDic rStr) (rLst (rTup K rInt)) (rLst (rTup K rInt))).up e1 r_self; have r_rows := (rLst (rLst rInt)).up e1 r_rows; have r_seen := (rLst (rTup K rInt)).up e1 r_seen; exact (em_Pcall2t (em_var (i := 1) rfl r_rows) (em_var (i := 3) rfl r_place))))).em) hv k fun v F H e k r => hQ v F H k.dropAll r
abbrev s_Picture_least : Stmt := clsS 36 6
abbrev N_Picture_least : List PySem.Str := ["self", "places", "shift", "k", "place"]
theorem sc_Picture_least : FnScope N_Picture_least ["self"] (defScope s_Picture_least) := ⟨rfl, rfl, rfl, by decide +kernel, rfl, by decide +kernel, by decide +kernel⟩
def sp_Picture_least (K : PySem.W.Frag) : Sp := (Psp1 (rO4 (He.ga K "Picture") "dimension" "words" "seen_places" "hidden_places" rInt (rDic rStr) (rLst (rTup K rInt)) (rLst (rTup K rInt))) (rO4 (He.ga K "Picture") "dimension" "words" "seen_places" "hidden_places" rInt (rDic rStr) (rLst (rTup K rInt)) (rLst (rTup K rInt))) m_Picture_least)
theorem ok_Picture_least {P : Program} {w : World} {K : PySem.W.Frag} {mg : PySem.Str → Option Value} {base : Heap} (T : Txt mg) (L : ClsF K mg) (E_ : ErrF K mg erL) (C_Picture_shifted : CalM P w K mg base 3 (He.ga K "Picture") "shifted" ["self", "shift"] (sp_Picture_shifted K) (fun _ => True)) {f : Addr} {fd : FuncData} (Fn : FnQ K "least" "Picture.least" s_Picture_least f fd) : FnOk P w K mg base CX0 4 f fd ["self"] (sp_Picture_least K) := by
  obtain ⟨f_Picture_shifted, fd_Picture_shifted, G_Picture_shifted, M_Picture_shifted, b_Picture_shifted, _⟩ := C_Picture_shifted.ex
  refine Fn.ok sc_Picture_least (fun vs H Q E h => Psp1_len h) (fun cdv A outer s H vs Q E hr h => ?_)
  obtain ⟨F, v_self, self, res, rfl, ex, r_self, hm, hQ⟩ := h
  have k := Cov.init ex
  generalize hc : Act.mk H F [] = c at k hQ
  unfold m_Picture_least at hm
  refine ⟨_, PSs.nox (pss_cons (ps_set (i := 1) sc_Picture_least.nd rfl (Or.inl rfl) (pe_op op_cat (pe_fldK K rfl (pv 0) (by rfl)) (pe_fldK K rfl (pv 0) (by rfl)))) (pss_cons (ps_if (pt_cmpR op_eq (pe_callB (call_len_seqK K rfl) (by rfl) T.b_len PySem.boot_len (pa_cons (pv 1) pa_nil)) pe_int (nomark _)) (pss_one (ps_ret (pv 0))) pss_nil) (pss_cons (ps_set (i := 2) sc_Picture_least.nd rfl (Or.inl rfl) (pe_lst pa_nil)) (pss_cons (ps_for PassesOwn.never rfl (pi_range1 (by rfl) T.b_range (pa_cons (pe_fldK K rfl (pv 0) (by rfl)) pa_nil)) (pg_name (i := 3) sc_Picture_least.nd rfl (Or.inr rfl)) (pss_one (ps_expr (pe_bm PySem.F.plainAttrs_list PySem.F.slot_list_append PySem.F.type_list_append mt_append (pv 2) (pa_cons (pe_un un_neg (pe_callB (cr_minK2 K rfl rfl) (by rfl) T.b_min (by decide +kernel) (pa_cons (pe_lc (own := [("place", 4)]) (g := (gName 4)) (tt := tYes) rfl sc_Picture_least.nd (pi_listK K rfl (pv 1)) (blkOk_by (N := N_Picture_least) (sc := defScope s_Picture_least) (by decide +kernel)) (fun _ _ _ _ _ => (pg_name (i := 4) sc_Picture_least.nd rfl (Or.inl rfl))) (fun _ _ _ _ _ => pts_nil) (fun _ _ _ _ _ => (pe_ix (ix_tupK K rfl) (pv 4) (pv 3) (fun _ _ => rfl)))) pa_nil))) pa_nil))))) (pss_one (ps_ret (pe_meth (pv 0) L.cl_Picture M_Picture_shifted G_Picture_shifted (hr.mono (by decide)) b_Picture_shifted .nil pass0 (pa_cons (pe_callTy (call_tuple_ofK K rfl) (by rfl) T.b_tuple (by decide +kernel) (pa_cons (pv 2) pa_nil)) pa_nil)))))))), ?_⟩
  show (_ : TS) _ [some v_self, none, none, none, none] _
  obtain ⟨places_n, hx, hm⟩ := bind_some hm
  refine q_set ((ef_cat ((em_fld4_2 L.cl_Picture L.na_Picture_seen_places (by decide) (by decide) (em_var (i := 0) rfl r_self))).es ((em_fld4_3 L.cl_Picture L.na_Picture_hidden_places (by decide) (by decide) (by decide) (em_var (i := 0) rfl r_self))).es)).em hx k fun v_places F H e k r_places => ?_
  obtain ⟨places, ez_⟩ : ∃ z, z = places_n := ⟨_, rfl⟩; subst ez_
  show (_ : TS) _ [some v_self, some v_places, none, none, none] _
  have r_self := (rO4 (He.ga K "Picture") "dimension" "words" "seen_places" "hidden_places" rInt (rDic rStr) (rLst (rTup K rInt)) (rLst (rTup K rInt))).up e r_self
  obtain ⟨b, hb, hm⟩ := bind_some hm
  refine q_ife (et_test (em_op vo_eqI (el_len ((em_var (i := 1) rfl r_places)).el) em_int)) hb k (fun eb F H e k => ?_) (fun eb F H e k => ?_)
  ·
    subst eb
    have hm := hT hm
    have r_self := (rO4 (He.ga K "Picture") "dimension" "words" "seen_places" "hidden_places" rInt (rDic rStr) (rLst (rTup K rInt)) (rLst (rTup K rInt))).up e r_self
    have r_places := (rLst (rTup K rInt)).up e r_places
    obtain ⟨rv, hv, hm⟩ := bind_some hm
    have hm := Option.some.inj hm
    cases hm
    exact a_ret (em_var (i := 0) rfl r_self) hv k fun v F H e k r => hQ v F H k.dropAll r
  ·
    subst eb
    have hm := hF hm
    have r_self := (rO4 (He.ga K "Picture") "dimension" "words" "seen_places" "hidden_places" rInt (rDic rStr) (rLst (rTup K rInt)) (rLst (rTup K rInt))).up e r_self
    have r_places := (rLst (rTup K rInt)).up e r_places
    obtain ⟨shift_n, hx, hm⟩ := bind_some hm
    refine q_setF (ef_lst (ra := rInt) ea_nil) hx k fun p_shift F H e k n_shift => ?_
    obtain ⟨shift, ez_⟩ : ∃ z, z = shift_n := ⟨_, rfl⟩; subst ez_
    show (_ : TS) _ [some v_self, some v_places, some (.ref p_shift), none, none] _
    have r_self := (rO4 (He.ga K "Picture") "dimension" "words" "seen_places" "hidden_places" rInt (rDic rStr) (rLst (rTup K rInt)) (rLst (rTup K rInt))).up e r_self
    have r_places := (rLst (rTup K rInt)).up e r_places
    obtain ⟨l_, hl, hm⟩ := bind_some hm
    obtain ⟨g1_, hf, hm⟩ := bind_some hm
    refine sq ?_
    refine a_for (ei_rng1 (em_fld4_0 L.cl_Picture L.na_Picture_dimension (em_var (i := 0) rfl r_self))) hl k hf fun F H e k => ⟨fun g σ1 F1 H1 => ∃ w_k_, σ1 = [some v_self, some v_places, some (.ref p_shift), w_k_, none] ∧ Ex F F1 ∧ Cov c F1 [(p_shift, cLst rInt g)] H1, fun g => [(p_shift, cLst rInt g)], ?_, ?_, ?_, ?_⟩
    · exact ⟨_, rfl, Evl.Ex.refl _, k⟩
    · rintro g σ1 F1 H1 ⟨_, rfl, e1, k1⟩
      exact ⟨e1, k1⟩
    · rintro d v shift g2 σ1 F1 H1 F H ⟨w_k_, rfl, eL9, _⟩ e1 k rd hm
      have eL9 := eL9.trans e1
      have r_self := (rO4 (He.ga K "Picture") "dimension" "words" "seen_places" "hidden_places" rInt (rDic rStr) (rLst (rTup K rInt)) (rLst (rTup K rInt))).up (e.trans eL9) r_self
      have r_places := (rLst (rTup K rInt)).up (e.trans eL9) r_places
      obtain ⟨k_, ez_⟩ : ∃ z, z = d := ⟨_, rfl⟩; subst ez_
      obtain ⟨v_k_, ez_⟩ : ∃ z, z = v := ⟨_, rfl⟩; subst ez_
      have r_k_ := rd
      refine gn (σ1 := [some v_self, some v_places, some (.ref p_shift), some v_k_, none]) rfl ?_
      obtain ⟨val, hx, hm⟩ := bind_some hm
      obtain ⟨shift_n, hs, hm⟩ := bind_some hm
      obtain ⟨hs, hz⟩ := appG_some hs
      refine a_app (i := 2) (j := 0) rfl rfl (em_un vu_neg (em_minL ((ef_lc (K := K) (t := yes) (f := fun (place : (List Int)) => (o2 ixG (some place) (some k_))) (S := (fun d F1 σ2 => ∃ v_place, σ2 = [some v_self, some v_places, some (.ref p_shift), some v_k_, some v_place] ∧ (rTup K rInt).r F1 v_place d)) (ei_list (em_var (i := 1) rfl r_places)) (gt_name (fun _ => rfl)) (fun d F1 σ2 hs => by obtain ⟨_, rfl, _⟩ := hs; rfl) (fun _ _ _ _ _ => et_yes) (by intro place F1 σ2 e1 hs; obtain ⟨v_place, rfl, r_place⟩ := hs; have r_self := (rO4 (He.ga K "Picture") "dimension" "words" "seen_places" "hidden_places" rInt (rDic rStr) (rLst (rTup K rInt)) (rLst (rTup K rInt))).up e1 r_self; have r_places := (rLst (rTup K rInt)).up e1 r_places; exact (et_ix (em_var (i := 4) rfl r_place) (em_varf (i := 3) fl_int rfl r_k_))))).em.el)) hx hz k fun F H e k => ?_
      rw [← hs] at k
      obtain ⟨shift, ez_⟩ : ∃ z, z = shift_n := ⟨_, rfl⟩; subst ez_
      have r_self := (rO4 (He.ga K "Picture") "dimension" "words" "seen_places" "hidden_places" rInt (rDic rStr) (rLst (rTup K rInt)) (rLst (rTup K rInt))).up e r_self
      have r_places := (rLst (rTup K rInt)).up e r_places
      have eL9 := eL9.trans e
      have k : Cov c F [(p_shift, cLst rInt shift)] H := k
      have hm := Option.some.inj hm
      subst hm
      exact ⟨F, _, rfl, eL9, k⟩
    obtain ⟨shift, ez_⟩ : ∃ z, z = g1_ := ⟨_, rfl⟩; subst ez_
    rintro σ1 F H ⟨w_k_, rfl, e1, k⟩
    have r_self := (rO4 (He.ga K "Picture") "dimension" "words" "seen_places" "hidden_places" rInt (rDic rStr) (rLst (rTup K rInt)) (rLst (rTup K rInt))).up (e.trans e1) r_self
    have r_places := (rLst (rTup K rInt)).up (e.trans e1) r_places
    refine nxh ?_
    obtain ⟨F, e, k, rz_⟩ := k.frzL 0 rfl n_shift
    have r_shift : ((rLst rInt)).r F (.ref p_shift) shift := rz_
    have r_self := (rO4 (He.ga K "Picture") "dimension" "words" "seen_places" "hidden_places" rInt (rDic rStr) (rLst (rTup K rInt)) (rLst (rTup K rInt))).up e r_self
    have r_places := (rLst (rTup K rInt)).up e r_places
    have k : Cov c F [] H := k
    obtain ⟨rv, hv, hm⟩ := bind_some hm
    have hm := Option.some.inj hm
    cases hm
    exact a_ret (em_gm1 (objM_O4 (by decide) (by decide) (by decide) (by decide)) (em_var (i := 0) rfl r_self) (el_tuple ((em_var (i := 2) rfl r_shift)).el)) hv k fun v F H e k r => hQ v F H k.dropAll r
abbrev s_integer_of : Stmt := topS 39
abbrev N_integer_of : List PySem.Str := ["word", "digits", "sign"]
theorem sc_integer_of : FnScope N_integer_of ["word"] (defScope s_integer_of) := ⟨rfl, rfl, rfl, by decide +kernel, rfl, by decide +kernel, by decide +kernel⟩
def sp_integer_of (K : PySem.W.Frag) : Sp := (Psp1 rStr (rOpt rInt) m_integer_of)
theorem ok_integer_of {P : Program} {w : World} {K : PySem.W.Frag} {mg : PySem.Str → Option Value} {base : Heap} (T : Txt mg) (L : ClsF K mg) (E_ : ErrF K mg erL) {f : Addr} {fd : FuncData} (Fn : FnP K "integer_of" s_integer_of f fd) : FnOk P w K mg base CX0 1 f fd ["word"] (sp_integer_of K) := by
  refine Fn.ok sc_integer_of (fun vs H Q E h => Psp1_len h) (fun cdv A outer s H vs Q E hr h => ?_)
  obtain ⟨F, v_word, word, res, rfl, ex, r_word, hm, hQ⟩ := h
  have k := Cov.init ex
  generalize hc : Act.mk H F [] = c at k hQ
  unfold m_integer_of at hm
  refine ⟨_, PSs.nox (pss_cons (ps_set (i := 1) sc_integer_of.nd rfl (Or.inl rfl) (pv 0)) (Evl.pss_cut (ps_if (pt_val (pe_m1 PySem.F.slot_str_startswith PySem.F.type_str_startswith mt_startswith (pv 0) pe_str)) (pss_one (ps_set (i := 1) sc_integer_of.nd rfl (Or.inl rfl) (pe_slice sl_str (pv 0) (po_some pe_int) po_none))) pss_nil) (pss_cons (ps_if (PW.pt (pw_or (pt_cmpR op_eq (pv 1) pe_str (nomark _)) (pw_or1 (pt_cmpR op_gt (pe_callB call_len_str (by rfl) T.b_len PySem.boot_len (pa_cons (pv 1) pa_nil)) pe_int (nomark _))))) (pss_one (ps_ret pe_non)) pss_nil) (pss_cons (ps_for PassesOwn.never rfl (pi_str (pv 1)) (pg_name (i := 2) sc_integer_of.nd rfl (Or.inl rfl)) (pss_one (ps_if (pt_cmpR op_notInS (pv 2) (pe_globS (s := "0123456789") (by rfl) L.s_DIGITS) rfl) (pss_one (ps_ret pe_non)) pss_nil))) (pss_cons (ps_if (PW.pt (pw_and (pt_cmpR op_eq (pe_ix ix_str (pv 1) pe_int (fun _ _ => rfl)) pe_str (nomark _)) (pw_and1 (pt_cmpR op_ne (pv 0) pe_str (nomark _))))) (pss_one (ps_ret pe_non)) pss_nil) (pss_one (ps_ret (pe_callTy call_int_str (by rfl) T.b_int (by decide +kernel) (pa_cons (pv 0) pa_nil))))))))), ?_⟩
  show (_ : TS) _ [some v_word, none, none] _
  obtain ⟨digits_n, hx, hm⟩ := bind_some hm
  refine q_set (em_varf (i := 0) fl_str rfl r_word) hx k fun v_digits F H e k r_digits => ?_
  obtain ⟨digits, ez_⟩ : ∃ z, z = digits_n := ⟨_, rfl⟩; subst ez_
  show (_ : TS) _ [some v_word, some v_digits, none] _
  obtain ⟨digits_j, hj, hm⟩ := bind_some hm
  refine q_cut (Mid := fun σ1 H1 => ∃ F1 v_digits, σ1 = [some v_word, some v_digits, none] ∧ Ex F F1 ∧ Cov c F1 [] H1 ∧ rStr.r F1 v_digits digits_j) ?_ ?_
  ·
    have hm := hj
    have eJ10 : Ex F F := Evl.Ex.refl F
    obtain ⟨b, hb, hm⟩ := bind_some hm
    refine a_if (et_B (em_startS (em_varf (i := 0) fl_str rfl r_word) em_str)) hb k (fun eb F H e k => ?_) (fun eb F H e k => ?_)
    ·
      subst eb
      have hm := hT hm
      have eJ10 := eJ10.trans e
      obtain ⟨digits_n, hx, hm⟩ := bind_some hm
      refine a_set (em_sliceS (em_varf (i := 0) fl_str rfl r_word) (eo_some em_int) eo_none) hx k fun v_digits F H e k r_digits => ?_
      obtain ⟨digits, ez_⟩ : ∃ z, z = digits_n := ⟨_, rfl⟩; subst ez_
      have eJ10 := eJ10.trans e
      have hm := Option.some.inj hm
      cases hm
      exact ⟨F, v_digits, rfl, eJ10, k, r_digits⟩
    ·
      subst eb
      have hm := hF hm
      have eJ10 := eJ10.trans e
      show Ends.nx _ _ _
      have hm := Option.some.inj hm
      cases hm
      exact ⟨F, v_digits, rfl, eJ10, k, r_digits⟩
  rintro σ1 H ⟨F, v_digits, rfl, e, k, r_digits⟩
  clear hj
  obtain ⟨digits, ez_⟩ : ∃ z, z = digits_j := ⟨_, rfl⟩; subst ez_
  obtain ⟨b, hb, hm⟩ := bind_some hm
  refine q_ife (et_or (et_test (em_op vo_eqS (em_varf (i := 1) fl_str rfl r_digits) em_str)) (et_test (em_op vo_gt (em_cb vc_lenS (em_varf (i := 1) fl_str rfl r_digits)) em_int))) hb k (fun eb F H e k => ?_) (fun eb F H e k => ?_)
  ·
    subst eb
    have hm := hT hm
    obtain ⟨rv, hv, hm⟩ := bind_some hm
    have hm := Option.some.inj hm
    cases hm
    exact a_ret (em_non (ra := rInt)) hv k fun v F H e k r => hQ v F H k.dropAll r
  ·
    subst eb
    have hm := hF hm
    obtain ⟨l_, hl, hm⟩ := bind_some hm
    obtain ⟨out1, hf, hm⟩ := bind_some hm
    have hm1 := hm
    refine sq ?_
    refine a_loop (ei_str (em_varf (i := 1) fl_str rfl r_digits)) hl k hf fun F H e k => ⟨fun g σ1 F1 H1 => ∃ w_sign, σ1 = [some v_word, some v_digits, w_sign] ∧ Ex F F1 ∧ Cov c F1 [] H1, fun g => [], ?_, ?_, ?_, ?_⟩
    · exact ⟨_, rfl, Evl.Ex.refl _, k⟩
    · rintro g σ1 F1 H1 ⟨_, rfl, e1, k1⟩
      exact ⟨e1, k1⟩
    · rintro d v ⟨⟩ oo1 σ1 F1 H1 F H ⟨w_sign, rfl, eL11, _⟩ e1 k rd hm hret1 hbrk1
      have eL11 := eL11.trans e1
      obtain ⟨sign, ez_⟩ : ∃ z, z = d := ⟨_, rfl⟩; subst ez_
      obtain ⟨v_sign, ez_⟩ : ∃ z, z = v := ⟨_, rfl⟩; subst ez_
      have r_sign := rd
      refine gn (σ1 := [some v_word, some v_digits, some v_sign]) rfl ?_
      obtain ⟨b, hb, hm⟩ := bind_some hm
      refine a_if (et_test (em_op vo_notInS (em_varf (i := 2) fl_str rfl r_sign) em_str)) hb k (fun eb F H e k => ?_) (fun eb F H e k => ?_)
      ·
        subst eb
        have hm := hT hm
        have eL11 := eL11.trans e
        obtain ⟨rv, hv, hm⟩ := bind_some hm
        have hm := Option.some.inj hm
        subst hm
        have ho1 := hret1 _ rfl
        rw [ho1] at hm1
        have hm := Option.some.inj hm1
        cases hm
        exact a_ret (em_non (ra := rInt)) hv k fun v F H e k r => hQ v F H k.dropAll r
      ·
        subst eb
        have hm := hF hm
        have eL11 := eL11.trans e
        show Ends.nx _ _ _
        have hm := Option.some.inj hm
        subst hm
        exact ⟨F, _, rfl, _, rfl, eL11, k⟩
    rintro ⟨⟩ σ1 F H eo ⟨w_sign, rfl, e1, k⟩
    subst eo
    refine nxh ?_
    obtain ⟨b, hb, hm⟩ := bind_some hm
    refine q_ife (et_and (et_test (em_op vo_eqS (em_op vo_ixS (em_varf (i := 1) fl_str rfl r_digits) em_int) em_str)) (et_test (em_op vo_neS (em_varf (i := 0) fl_str rfl r_word) em_str))) hb k (fun eb F H e k => ?_) (fun eb F H e k => ?_)
    ·
      subst eb
      have hm := hT hm
      obtain ⟨rv, hv, hm⟩ := bind_some hm
      have hm := Option.some.inj hm
      cases hm
      exact a_ret (em_non (ra := rInt)) hv k fun v F H e k r => hQ v F H k.dropAll r
    ·
      subst eb
      have hm := hF hm
      obtain ⟨rv, hv, hm⟩ := bind_some hm
      have hm := Option.some.inj hm
      cases hm
      exact a_ret (em_opt nn_int (em_cb vc_intS (em_varf (i := 0) fl_str rfl r_word))) hv k fun v F H e k r => hQ v F H k.dropAll r
abbrev s_place_of : Stmt := topS 40
abbrev N_place_of : List PySem.Str := ["word", "values", "part"]
theorem sc_place_of : FnScope N_place_of ["word"] (defScope s_place_of) := ⟨rfl, rfl, rfl, by decide +kernel, rfl, by decide +kernel, by decide +kernel⟩
def sp_place_of (K : PySem.W.Frag) : Sp := (Psp1 rStr (rOpt (rTup K rInt)) m_place_of)
theorem ok_place_of {P : Program} {w : World} {K : PySem.W.Frag} {mg : PySem.Str → Option Value} {base : Heap} (T : Txt mg) (L : ClsF K mg) (E_ : ErrF K mg erL) (C_integer_of : Cal P w K mg base 1 "integer_of" ["word"] (sp_integer_of K) (fun _ => True)) {f : Addr} {fd : FuncData} (Fn : FnP K "place_of" s_place_of f fd) : FnOk P w K mg base CX0 2 f fd ["word"] (sp_place_of K) := by
  obtain ⟨f_integer_of, fd_integer_of, G_integer_of, g_integer_of, kp_integer_of, b_integer_of, _⟩ := C_integer_of.ex
  refine Fn.ok sc_place_of (fun vs H Q E h => Psp1_len h) (fun cdv A outer s H vs Q E hr h => ?_)
  obtain ⟨F, v_word, word, res, rfl, ex, r_word, hm, hQ⟩ := h
  have k := Cov.init ex
  generalize hc : Act.mk H F [] = c at k hQ
  unfold m_place_of at hm
  refine ⟨_, PSs.nox (pss_cons (ps_if (PW.pt (pw_or (pt_cmpR op_lt (pe_callB call_len_str (by rfl) T.b_len PySem.boot_len (pa_cons (pv 0) pa_nil)) pe_int (nomark _)) (pw_or (pt_cmpR op_ne (pe_ix ix_str (pv 0) pe_int (fun _ _ => rfl)) pe_str (nomark _)) (pw_or1 (pt_cmpR op_ne (pe_ix ix_str (pv 0) (pe_un un_neg pe_int) (fun _ _ => rfl)) pe_str (nomark _)))))) (pss_one (ps_ret pe_non)) pss_nil) (pss_cons (ps_setLc (i := 1) (own := [("part", 2)]) (g := (gName 2)) (tt := tYes) rfl sc_place_of.nd rfl rfl (sw_true rfl rfl rfl (by decide +kernel)) (pi_listK K rfl (pe_split (pe_slice sl_str (pv 0) (po_some pe_int) (po_some (pe_un un_neg pe_int))) pe_str)) (blkOk_by (N := N_place_of) (sc := defScope s_place_of) (by decide +kernel)) (fun _ _ _ _ _ => (pg_name (i := 2) sc_place_of.nd rfl (Or.inl rfl))) (fun _ _ _ _ _ => pts_nil) (fun _ _ _ _ _ => (pe_call G_integer_of (hr.mono (by decide)) (by rfl) g_integer_of kp_integer_of b_integer_of .nil pass0 (pa_cons (pv 2) pa_nil)))) (pss_cons (ps_if (PW.pt (pw_or (pt_cmpR (op_notIn_seqK K rfl) (pe_callB (call_len_seqK K rfl) (by rfl) T.b_len PySem.boot_len (pa_cons (pv 1) pa_nil)) (pe_tup (pa_cons pe_int (pa_cons pe_int pa_nil))) rfl) (pw_or1 (pt_cmpR (op_inDK K rfl (un65 hr)) pe_non (pv 1) rfl)))) (pss_one (ps_ret pe_non)) pss_nil) (pss_one (ps_ret (pe_callTy (call_tuple_ofK K rfl) (by rfl) T.b_tuple (by decide +kernel) (pa_cons (pv 1) pa_nil))))))), ?_⟩
  show (_ : TS) _ [some v_word, none, none] _
  obtain ⟨b, hb, hm⟩ := bind_some hm
  refine q_ife (et_or (et_test (em_op vo_lt (em_cb vc_lenS (em_varf (i := 0) fl_str rfl r_word)) em_int)) (et_or (et_test (em_op vo_neS (em_op vo_ixS (em_varf (i := 0) fl_str rfl r_word) em_int) em_str)) (et_test (em_op vo_neS (em_op vo_ixS (em_varf (i := 0) fl_str rfl r_word) (em_un vu_neg em_int)) em_str)))) hb k (fun eb F H e k => ?_) (fun eb F H e k => ?_)
  ·
    subst eb
    have hm := hT hm
    obtain ⟨rv, hv, hm⟩ := bind_some hm
    have hm := Option.some.inj hm
    cases hm
    exact a_ret (em_non (ra := (rTup K rInt))) hv k fun v F H e k r => hQ v F H k.dropAll r
  ·
    subst eb
    have hm := hF hm
    obtain ⟨values_n, hx, hm⟩ := bind_some hm
    refine q_set ((ef_lc (K := K) (t := yes) (f := fun (part : PySem.Str) => (m_integer_of part)) (S := (fun d F1 σ2 => ∃ v_part, σ2 = [some v_word, none, some v_part] ∧ rStr.r F1 v_part d)) (ei_list ((ef_split (em_sliceS (em_varf (i := 0) fl_str rfl r_word) (eo_some em_int) (eo_some (em_un vu_neg em_int))) em_str)).em) (gt_name (fun _ => rfl)) (fun d F1 σ2 hs => by obtain ⟨_, rfl, _⟩ := hs; rfl) (fun _ _ _ _ _ => et_yes) (by intro part F1 σ2 e1 hs; obtain ⟨v_part, rfl, r_part⟩ := hs; exact (em_Pcall1t (em_varf (i := 2) fl_str rfl r_part))))).em hx k fun v_values F H e k r_values => ?_
    obtain ⟨values, ez_⟩ : ∃ z, z = values_n := ⟨_, rfl⟩; subst ez_
    show (_ : TS) _ [some v_word, some v_values, none] _
    obtain ⟨b, hb, hm⟩ := bind_some hm
    refine q_ife (et_or (et_test (em_op vo_notInT (el_len ((em_var (i := 1) rfl r_values)).el) (em_tup (K := K) (ea_cons em_int (ea_cons em_int ea_nil))))) (et_test (em_inD (dq_opt dq_int fun _ => ⟨rfl, rfl⟩) (Nat.le_of_ble_eq_true rfl) (em_non (ra := rInt)) ((em_var (i := 1) rfl r_values)).el))) hb k (fun eb F H e k => ?_) (fun eb F H e k => ?_)
    ·
      subst eb
      have hm := hT hm
      have r_values := (rLst (rOpt rInt)).up e r_values
      obtain ⟨rv, hv, hm⟩ := bind_some hm
      have hm := Option.some.inj hm
      cases hm
      exact a_ret (em_non (ra := (rTup K rInt))) hv k fun v F H e k r => hQ v F H k.dropAll r
    ·
      subst eb
      have hm := hF hm
      have r_values := (rLst (rOpt rInt)).up e r_values
      obtain ⟨rv, hv, hm⟩ := bind_some hm
      have hm := Option.some.inj hm
      cases hm
      exact a_ret (em_opt nn_tup (em_allST (el_tuple ((em_var (i := 1) rfl r_values)).el))) hv k fun v F H e k r => hQ v F H k.dropAll r
abbrev s_ascend : Stmt := topS 41
abbrev N_ascend : List PySem.Str := ["places", "size", "k"]
theorem sc_ascend : FnScope N_ascend ["places", "size"] (defScope s_ascend) := ⟨rfl, rfl, rfl, by decide +kernel, rfl, by decide +kernel, by decide +kernel⟩
def sp_ascend (K : PySem.W.Frag) : Sp := (Psp2 (rLst (rOpt (rTup K rInt))) rInt rBool m_ascend)
theorem ok_ascend {P : Program} {w : World} {K : PySem.W.Frag} {mg : PySem.Str → Option Value} {base : Heap} (T : Txt mg) (L : ClsF K mg) (E_ : ErrF K mg erL) {f : Addr} {fd : FuncData} (Fn : FnP K "ascend" s_ascend f fd) : FnOk P w K mg base CX0 1 f fd ["places", "size"] (sp_ascend K) := by
  refine Fn.ok sc_ascend (fun vs H Q E h => Psp2_len h) (fun cdv A outer s H vs Q E hr h => ?_)
  obtain ⟨F, v_places, v_size, places, size, res, rfl, ex, r_places, r_size, hm, hQ⟩ := h
  have k := Cov.init ex
  generalize hc : Act.mk H F [] = c at k hQ
  unfold m_ascend at hm
  refine ⟨_, PSs.nox (pss_cons (ps_for PassesOwn.never rfl (pi_range1 (by rfl) T.b_range (pa_cons (pe_callB (call_len_seqK K rfl) (by rfl) T.b_len PySem.boot_len (pa_cons (pv 0) pa_nil)) pa_nil)) (pg_name (i := 2) sc_ascend.nd rfl (Or.inl rfl)) (pss_cons (ps_if (PW.pt (pw_or (pt_cmpR op_isN (pe_ix (ix_listK K rfl) (pv 0) (pv 2) (fun _ _ => rfl)) pe_non (nomark _)) (pw_or1 (pt_cmpR op_ne (pe_callB (call_len_seqK K rfl) (by rfl) T.b_len PySem.boot_len (pa_cons (pe_ix (ix_listK K rfl) (pv 0) (pv 2) (fun _ _ => rfl)) pa_nil)) (pv 1) (nomark _))))) (pss_one (ps_ret pe_bl)) pss_nil) (pss_one (ps_if (PW.pt (pw_and (pt_cmpR op_gt (pv 2) pe_int (nomark _)) (pw_and1 (pt_cmpR (op_geTK K rfl (un65 hr)) (pe_ix (ix_listK K rfl) (pv 0) (pe_op op_sub (pv 2) pe_int) (fun _ _ => rfl)) (pe_ix (ix_listK K rfl) (pv 0) (pv 2) (fun _ _ => rfl)) (nomark _))))) (pss_one (ps_ret pe_bl)) pss_nil)))) (pss_one (ps_ret pe_bl))), ?_⟩
  show (_ : TS) _ [some v_places, some v_size, none] _
  obtain ⟨l_, hl, hm⟩ := bind_some hm
  obtain ⟨out1, hf, hm⟩ := bind_some hm
  have hm1 := hm
  refine sq ?_
  refine a_loop (ei_rng1 (el_len ((em_var (i := 0) rfl r_places)).el)) hl k hf fun F H e k => ⟨fun g σ1 F1 H1 => ∃ w_k_, σ1 = [some v_places, some v_size, w_k_] ∧ Ex F F1 ∧ Cov c F1 [] H1, fun g => [], ?_, ?_, ?_, ?_⟩
  · exact ⟨_, rfl, Evl.Ex.refl _, k⟩
  · rintro g σ1 F1 H1 ⟨_, rfl, e1, k1⟩
    exact ⟨e1, k1⟩
  · rintro d v ⟨⟩ oo1 σ1 F1 H1 F H ⟨w_k_, rfl, eL12, _⟩ e1 k rd hm hret1 hbrk1
    have eL12 := eL12.trans e1
    have r_places := (rLst (rOpt (rTup K rInt))).up (e.trans eL12) r_places
    obtain ⟨k_, ez_⟩ : ∃ z, z = d := ⟨_, rfl⟩; subst ez_
    obtain ⟨v_k_, ez_⟩ : ∃ z, z = v := ⟨_, rfl⟩; subst ez_
    have r_k_ := rd
    refine gn (σ1 := [some v_places, some v_size, some v_k_]) rfl ?_
    obtain ⟨b, hb, hm⟩ := bind_some hm
    refine q_ife (et_or (et_test (em_isN (el_ix ((em_var (i := 0) rfl r_places)).el (em_varf (i := 2) fl_int rfl r_k_)))) (et_test (em_op vo_neI (et_len (em_unO (el_ix ((em_var (i := 0) rfl r_places)).el (em_varf (i := 2) fl_int rfl r_k_)))) (em_varf (i := 1) fl_int rfl r_size)))) hb k (fun eb F H e k => ?_) (fun eb F H e k => ?_)
    ·
      subst eb
      have hm := hT hm
      have r_places := (rLst (rOpt (rTup K rInt))).up e r_places
      have eL12 := eL12.trans e
      obtain ⟨rv, hv, hm⟩ := bind_some hm
      have hm := Option.some.inj hm
      subst hm
      have ho1 := hret1 _ rfl
      rw [ho1] at hm1
      have hm := Option.some.inj hm1
      cases hm
      exact a_ret em_bl hv k fun v F H e k r => hQ v F H k.dropAll r
    ·
      subst eb
      have hm := hF hm
      have r_places := (rLst (rOpt (rTup K rInt))).up e r_places
      have eL12 := eL12.trans e
      obtain ⟨b, hb, hm⟩ := bind_some hm
      refine a_if (et_and (et_test (em_op vo_gt (em_varf (i := 2) fl_int rfl r_k_) em_int)) (et_test (em_op vo_geT (em_unO (el_ix ((em_var (i := 0) rfl r_places)).el (em_op vo_sub (em_varf (i := 2) fl_int rfl r_k_) em_int))) (em_unO (el_ix ((em_var (i := 0) rfl r_places)).el (em_varf (i := 2) fl_int rfl r_k_)))))) hb k (fun eb F H e k => ?_) (fun eb F H e k => ?_)
      ·
        subst eb
        have hm := hT hm
        have r_places := (rLst (rOpt (rTup K rInt))).up e r_places
        have eL12 := eL12.trans e
        obtain ⟨rv, hv, hm⟩ := bind_some hm
        have hm := Option.some.inj hm
        subst hm
        have ho1 := hret1 _ rfl
        rw [ho1] at hm1
        have hm := Option.some.inj hm1
        cases hm
        exact a_ret em_bl hv k fun v F H e k r => hQ v F H k.dropAll r
      ·
        subst eb
        have hm := hF hm
        have r_places := (rLst (rOpt (rTup K rInt))).up e r_places
        have eL12 := eL12.trans e
        show Ends.nx _ _ _
        have hm := Option.some.inj hm
        subst hm
        exact ⟨F, _, rfl, _, rfl, eL12, k⟩
  rintro ⟨⟩ σ1 F H eo ⟨w_k_, rfl, e1, k⟩
  subst eo
  have r_places := (rLst (rOpt (rTup K rInt))).up (e.trans e1) r_places
  refine nxh ?_
  obtain ⟨rv, hv, hm⟩ := bind_some hm
  have hm := Option.some.inj hm
  cases hm
  exact a_ret em_bl hv k fun v F H e k r => hQ v F H k.dropAll r
abbrev s_read_place : Stmt := topS 42
abbrev N_read_place : List PySem.Str := ["text", "place"]
theorem sc_read_place : FnScope N_read_place ["text"] (defScope s_read_place) := ⟨rfl, rfl, rfl, by decide +kernel, rfl, by decide +kernel, by decide +kernel⟩
def sp_read_place (K : PySem.W.Frag) : Sp := (Xsp K erL (gpC rStr gpN) (rTup K rInt) (fun d => m_read_place d.1))
theorem ok_read_place {P : Program} {w : World} {K : PySem.W.Frag} {mg : PySem.Str → Option Value} {base : Heap} (T : Txt mg) (L : ClsF K mg) (E_ : ErrF K mg erL) (C_ei : CalE P w K mg base erL) (C_place_of : Cal P w K mg base 2 "place_of" ["word"] (sp_place_of K) (fun _ => True)) {f : Addr} {fd : FuncData} (Fn : FnP K "read_place" s_read_place f fd) : FnOk P w K mg base (L2.CX P w) 3 f fd ["text"] (sp_read_place K) := by
  obtain ⟨f_place_of, fd_place_of, G_place_of, g_place_of, kp_place_of, b_place_of, _⟩ := C_place_of.ex
  obtain ⟨fd_ei, G_ei, b_ei⟩ := C_ei.ex
  refine Fn.ok sc_read_place (fun vs H Q E h => Xsp_len h) (fun cdv A outer s H vs Q E hr h => ?_)
  obtain ⟨F, ⟨text, ⟨⟩⟩, res, ex, ⟨v_text, w0_, rfl, r_text, rfl⟩, hm, hQ, hE⟩ := h
  have k := Cov.init ex
  have r_text : rStr.r F v_text text := r_text
  have hm : m_read_place text = some res := hm
  generalize hc : Act.mk H F [] = c at k hQ hE
  unfold m_read_place at hm
  refine ⟨_, (pss_cons (ps_set (i := 1) sc_read_place.nd rfl (Or.inl rfl) (pe_call G_place_of (hr.mono (by decide)) (by rfl) g_place_of kp_place_of b_place_of .nil pass0 (pa_cons (pv 0) pa_nil))) (pss_cons (ps_if (pt_cmpR op_isN (pv 1) pe_non (nomark _)) (pss_one (ps_raise rfl (takes_of rfl rfl rfl rfl) (pmk_oex (E_.oex _ er_Unreadable) (E_.ini _ er_Unreadable) E_.fnI G_ei (hr.mono (by decide)) b_ei .nil pass0 (by rfl) (E_.glo _ er_Unreadable) (pa_cons (pv 0) pa_nil)))) pss_nil) (pss_one (ps_ret (pv 1))))), ?_⟩
  show (_ : TS) _ [some v_text, none] _
  obtain ⟨place_n, hx, hm⟩ := bind_some hm
  refine q_set (em_Pcall1t (em_varf (i := 0) fl_str rfl r_text)) hx k fun v_place F H e k r_place => ?_
  obtain ⟨place, ez_⟩ : ∃ z, z = place_n := ⟨_, rfl⟩; subst ez_
  show (_ : TS) _ [some v_text, some v_place] _
  obtain ⟨b, hb, hm⟩ := bind_some hm
  refine q_ife (et_test (em_isN (em_var (i := 1) rfl r_place))) hb k (fun eb F H e k => ?_) (fun eb F H e k => ?_)
  ·
    subst eb
    have hm := hT hm
    have r_place := (rOpt (rTup K rInt)).up e r_place
    obtain ⟨p_, hx, hm⟩ := bind_some hm
    refine a_raise (W := fun cls d _ H => E cls d H) (σ := [some v_text, some v_place]) E_ er_Unreadable (pay := Pay.str) py_str (em_varf (i := 0) fl_str rfl r_text) hx k fun cls dd F H e k rE => ?_
    have r_place := (rOpt (rTup K rInt)).up e r_place
    have hm := Option.some.inj hm
    exact hE _ hm.symm cls dd F H k.dropAll rE
  ·
    subst eb
    have hm := hF hm
    have r_place := (rOpt (rTup K rInt)).up e r_place
    obtain ⟨rv, hv, hm⟩ := bind_some hm
    have hm := Option.some.inj hm
    cases hm
    exact a_ret (em_unO (em_var (i := 1) rfl r_place)) hv k fun v F H e k r => hQ _ rfl v F H k.dropAll r
abbrev s_read_picture : Stmt := topS 43
abbrev N_read_picture : List PySem.Str := ["text", "words", "size", "end", "seen", "hidden", "word"]
theorem sc_read_picture : FnScope N_read_picture ["text"] (defScope s_read_picture) := ⟨rfl, rfl, rfl, by decide +kernel, rfl, by decide +kernel, by decide +kernel⟩
def sp_read_picture (K : PySem.W.Frag) : Sp := (Xsp K erL (gpC rStr gpN) (rO4 (He.ga K "Picture") "dimension" "words" "seen_places" "hidden_places" rInt (rDic rStr) (rLst (rTup K rInt)) (rLst (rTup K rInt))) (fun d => m_read_picture d.1))
theorem ok_read_picture {P : Program} {w : World} {K : PySem.W.Frag} {mg : PySem.Str → Option Value} {base : Heap} (T : Txt mg) (L : ClsF K mg) (E_ : ErrF K mg erL) (C_ei : CalE P w K mg base erL) (C_Picture___init__ : CalI P w K mg base 1 (He.ga K "Picture") ["self", "size", "seen", "hidden"] (sp_Picture___init__ K) (fun _ => True)) (C_place_of : Cal P w K mg base 2 "place_of" ["word"] (sp_place_of K) (fun _ => True)) (C_ascend : Cal P w K mg base 1 "ascend" ["places", "size"] (sp_ascend K) (fun _ => True)) {f : Addr} {fd : FuncData} (Fn : FnP K "read_picture" s_read_picture f fd) : FnOk P w K mg base (L2.CX P w) 3 f fd ["text"] (sp_read_picture K) := by
  obtain ⟨f_Picture___init__, fd_Picture___init__, G_Picture___init__, M_Picture___init__, b_Picture___init__, _⟩ := C_Picture___init__.ex
  obtain ⟨f_place_of, fd_place_of, G_place_of, g_place_of, kp_place_of, b_place_of, _⟩ := C_place_of.ex
  obtain ⟨f_ascend, fd_ascend, G_ascend, g_ascend, kp_ascend, b_ascend, _⟩ := C_ascend.ex
  obtain ⟨fd_ei, G_ei, b_ei⟩ := C_ei.ex
  refine Fn.ok sc_read_picture (fun vs H Q E h => Xsp_len h) (fun cdv A outer s H vs Q E hr h => ?_)
  obtain ⟨F, ⟨text, ⟨⟩⟩, res, ex, ⟨v_text, w0_, rfl, r_text, rfl⟩, hm, hQ, hE⟩ := h
  have k := Cov.init ex
  have r_text : rStr.r F v_text text := r_text
  have hm : m_read_picture text = some res := hm
  generalize hc : Act.mk H F [] = c at k hQ hE
  unfold m_read_picture at hm
  refine ⟨_, (pss_cons (ps_set (i := 1) sc_read_picture.nd rfl (Or.inl rfl) (pe_split (pv 0) pe_str)) (pss_cons (ps_if (PW.pt (pw_or (pt_cmpR op_lt (pe_callB (call_len_seqK K rfl) (by rfl) T.b_len PySem.boot_len (pa_cons (pv 1) pa_nil)) pe_int (nomark _)) (pw_or (pt_cmpR (op_notIn_seqK K rfl) (pe_ix (ix_listK K rfl) (pv 1) pe_int (fun _ _ => rfl)) (pe_tup (pa_cons pe_str (pa_cons pe_str pa_nil))) rfl) (pw_or (pt_cmpR op_ne (pe_ix (ix_listK K rfl) (pv 1) pe_int (fun _ _ => rfl)) pe_str (nomark _)) (pw_or1 (pt_cmpR op_ne (pe_bm PySem.F.plainAttrs_list PySem.F.slot_list_count PySem.F.type_list_count (mt_cntTK K rfl) (pv 1) (pa_cons pe_str pa_nil)) pe_int (nomark _))))))) (pss_one (ps_raise rfl (takes_of rfl rfl rfl rfl) (pmk_oex (E_.oex _ er_Unreadable) (E_.ini _ er_Unreadable) E_.fnI G_ei (hr.mono (by decide)) b_ei .nil pass0 (by rfl) (E_.glo _ er_Unreadable) (pa_cons (pv 0) pa_nil)))) pss_nil) (pss_cons (ps_set (i := 2) sc_read_picture.nd rfl (Or.inl rfl) (pe_callTy call_int_str (by rfl) T.b_int (by decide +kernel) (pa_cons (pe_ix (ix_listK K rfl) (pv 1) pe_int (fun _ _ => rfl)) pa_nil))) (pss_cons (ps_set (i := 3) sc_read_picture.nd rfl (Or.inl rfl) (pe_bm PySem.F.plainAttrs_list PySem.F.slot_list_index PySem.F.type_list_index (mt_indexDK (K := K) rfl (un65 hr)) (pv 1) (pa_cons pe_str pa_nil))) (pss_cons (ps_setLc (i := 4) (own := [("word", 6)]) (g := (gName 6)) (tt := tYes) rfl sc_read_picture.nd rfl rfl (sw_true rfl rfl rfl (by decide +kernel)) (pi_listK K rfl (pe_slice (sl_listK K rfl) (pv 1) (po_some pe_int) (po_some (pv 3)))) (blkOk_by (N := N_read_picture) (sc := defScope s_read_picture) (by decide +kernel)) (fun _ _ _ _ _ => (pg_name (i := 6) sc_read_picture.nd rfl (Or.inl rfl))) (fun _ _ _ _ _ => pts_nil) (fun _ _ _ _ _ => (pe_call G_place_of (hr.mono (by decide)) (by rfl) g_place_of kp_place_of b_place_of .nil pass0 (pa_cons (pv 6) pa_nil)))) (pss_cons (ps_setLc (i := 5) (own := [("word", 6)]) (g := (gName 6)) (tt := tYes) rfl sc_read_picture.nd rfl rfl (sw_true rfl rfl rfl (by decide +kernel)) (pi_listK K rfl (pe_slice (sl_listK K rfl) (pv 1) (po_some (pe_op op_add (pv 3) pe_int)) po_none)) (blkOk_by (N := N_read_picture) (sc := defScope s_read_picture) (by decide +kernel)) (fun _ _ _ _ _ => (pg_name (i := 6) sc_read_picture.nd rfl (Or.inl rfl))) (fun _ _ _ _ _ => pts_nil) (fun _ _ _ _ _ => (pe_call G_place_of (hr.mono (by decide)) (by rfl) g_place_of kp_place_of b_place_of .nil pass0 (pa_cons (pv 6) pa_nil)))) (pss_cons (ps_if (PW.pt (pw_or (pt_not (pt_val (pe_call G_ascend (hr.mono (by decide)) (by rfl) g_ascend kp_ascend b_ascend .nil pass0 (pa_cons (pv 4) (pa_cons (pv 2) pa_nil))))) (pw_or1 (pt_not (pt_val (pe_call G_ascend (hr.mono (by decide)) (by rfl) g_ascend kp_ascend b_ascend .nil pass0 (pa_cons (pv 5) (pa_cons (pv 2) pa_nil)))))))) (pss_one (ps_raise rfl (takes_of rfl rfl rfl rfl) (pmk_oex (E_.oex _ er_Unreadable) (E_.ini _ er_Unreadable) E_.fnI G_ei (hr.mono (by decide)) b_ei .nil pass0 (by rfl) (E_.glo _ er_Unreadable) (pa_cons (pv 0) pa_nil)))) pss_nil) (pss_one (ps_try_thru0 (pss_one (ps_ret (pe_make M_Picture___init__ G_Picture___init__ (hr.mono (by decide)) (by rfl) L.g_Picture b_Picture___init__ .nil pass0 (pa_cons (pv 2) (pa_cons (pv 4) (pa_cons (pv 5) pa_nil))))))))))))))), ?_⟩
  show (_ : TS) _ [some v_text, none, none, none, none, none, none] _
  obtain ⟨words_n, hx, hm⟩ := bind_some hm
  refine q_set ((ef_split (em_varf (i := 0) fl_str rfl r_text) em_str)).em hx k fun v_words F H e k r_words => ?_
  obtain ⟨words, ez_⟩ : ∃ z, z = words_n := ⟨_, rfl⟩; subst ez_
  show (_ : TS) _ [some v_text, some v_words, none, none, none, none, none] _
  obtain ⟨b, hb, hm⟩ := bind_some hm
  refine q_ife (et_or (et_test (em_op vo_lt (el_len ((em_var (i := 1) rfl r_words)).el) em_int)) (et_or (et_test (em_op vo_notInTS (el_ix ((em_var (i := 1) rfl r_words)).el em_int) (em_tup (K := K) (ea_cons em_str (ea_cons em_str ea_nil))))) (et_or (et_test (em_op vo_neS (el_ix ((em_var (i := 1) rfl r_words)).el em_int) em_str)) (et_test (em_op vo_neI (em_cntT ((em_var (i := 1) rfl r_words)).el em_str) em_int))))) hb k (fun eb F H e k => ?_) (fun eb F H e k => ?_)
  ·
    subst eb
    have hm := hT hm
    have r_words := (rLst rStr).up e r_words
    obtain ⟨p_, hx, hm⟩ := bind_some hm
    refine a_raise (W := fun cls d _ H => E cls d H) (σ := [some v_text, some v_words, none, none, none, none, none]) E_ er_Unreadable (pay := Pay.str) py_str (em_varf (i := 0) fl_str rfl r_text) hx k fun cls dd F H e k rE => ?_
    have r_words := (rLst rStr).up e r_words
    have hm := Option.some.inj hm
    exact hE _ hm.symm cls dd F H k.dropAll rE
  ·
    subst eb
    have hm := hF hm
    have r_words := (rLst rStr).up e r_words
    obtain ⟨size_n, hx, hm⟩ := bind_some hm
    refine q_set (em_cb vc_intS (el_ix ((em_var (i := 1) rfl r_words)).el em_int)) hx k fun v_size F H e k r_size => ?_
    obtain ⟨size, ez_⟩ : ∃ z, z = size_n := ⟨_, rfl⟩; subst ez_
    show (_ : TS) _ [some v_text, some v_words, some v_size, none, none, none, none] _
    have r_words := (rLst rStr).up e r_words
    obtain ⟨end__n, hx, hm⟩ := bind_some hm
    refine q_set (em_indexD dq_str (Nat.le_of_ble_eq_true rfl) ((em_var (i := 1) rfl r_words)).el em_str) hx k fun v_end_ F H e k r_end_ => ?_
    obtain ⟨end_, ez_⟩ : ∃ z, z = end__n := ⟨_, rfl⟩; subst ez_
    show (_ : TS) _ [some v_text, some v_words, some v_size, some v_end_, none, none, none] _
    have r_words := (rLst rStr).up e r_words
    obtain ⟨seen_n, hx, hm⟩ := bind_some hm
    refine q_set ((ef_lc (K := K) (t := yes) (f := fun (word : PySem.Str) => (m_place_of word)) (S := (fun d F1 σ2 => ∃ v_word, σ2 = [some v_text, some v_words, some v_size, some v_end_, none, none, some v_word] ∧ rStr.r F1 v_word d)) (ei_list ((ef_slice ((em_var (i := 1) rfl r_words)).el (eo_some em_int) (eo_some (em_varf (i := 3) fl_int rfl r_end_)))).em) (gt_name (fun _ => rfl)) (fun d F1 σ2 hs => by obtain ⟨_, rfl, _⟩ := hs; rfl) (fun _ _ _ _ _ => et_yes) (by intro word F1 σ2 e1 hs; obtain ⟨v_word, rfl, r_word⟩ := hs; have r_words := (rLst rStr).up e1 r_words; exact (em_Pcall1t (em_varf (i := 6) fl_str rfl r_word))))).em hx k fun v_seen F H e k r_seen => ?_
    obtain ⟨seen, ez_⟩ : ∃ z, z = seen_n := ⟨_, rfl⟩; subst ez_
    show (_ : TS) _ [some v_text, some v_words, some v_size, some v_end_, some v_seen, none, none] _
    have r_words := (rLst rStr).up e r_words
    obtain ⟨hidden_n, hx, hm⟩ := bind_some hm
    refine q_set ((ef_lc (K := K) (t := yes) (f := fun (word : PySem.Str) => (m_place_of word)) (S := (fun d F1 σ2 => ∃ v_word, σ2 = [some v_text, some v_words, some v_size, some v_end_, some v_seen, none, some v_word] ∧ rStr.r F1 v_word d)) (ei_list ((ef_slice ((em_var (i := 1) rfl r_words)).el (eo_some (em_op vo_add (em_varf (i := 3) fl_int rfl r_end_) em_int)) eo_none)).em) (gt_name (fun _ => rfl)) (fun d F1 σ2 hs => by obtain ⟨_, rfl, _⟩ := hs; rfl) (fun _ _ _ _ _ => et_yes) (by intro word F1 σ2 e1 hs; obtain ⟨v_word, rfl, r_word⟩ := hs; have r_words := (rLst rStr).up e1 r_words; have r_seen := (rLst (rOpt (rTup K rInt))).up e1 r_seen; exact (em_Pcall1t (em_varf (i := 6) fl_str rfl r_word))))).em hx k fun v_hidden F H e k r_hidden => ?_
    obtain ⟨hidden, ez_⟩ : ∃ z, z = hidden_n := ⟨_, rfl⟩; subst ez_
    show (_ : TS) _ [some v_text, some v_words, some v_size, some v_end_, some v_seen, some v_hidden, none] _
    have r_words := (rLst rStr).up e r_words
    have r_seen := (rLst (rOpt (rTup K rInt))).up e r_seen
    obtain ⟨b, hb, hm⟩ := bind_some hm
    refine q_ife (et_or (et_not (et_B (em_Pcall2t (em_var (i := 4) rfl r_seen) (em_varf (i := 2) fl_int rfl r_size)))) (et_not (et_B (em_Pcall2t (em_var (i := 5) rfl r_hidden) (em_varf (i := 2) fl_int rfl r_size))))) hb k (fun eb F H e k => ?_) (fun eb F H e k => ?_)
    ·
      subst eb
      have hm := hT hm
      have r_words := (rLst rStr).up e r_words
      have r_seen := (rLst (rOpt (rTup K rInt))).up e r_seen
      have r_hidden := (rLst (rOpt (rTup K rInt))).up e r_hidden
      obtain ⟨p_, hx, hm⟩ := bind_some hm
      refine a_raise (W := fun cls d _ H => E cls d H) (σ := [some v_text, some v_words, some v_size, some v_end_, some v_seen, some v_hidden, none]) E_ er_Unreadable (pay := Pay.str) py_str (em_varf (i := 0) fl_str rfl r_text) hx k fun cls dd F H e k rE => ?_
      have r_words := (rLst rStr).up e r_words
      have r_seen := (rLst (rOpt (rTup K rInt))).up e r_seen
      have r_hidden := (rLst (rOpt (rTup K rInt))).up e r_hidden
      have hm := Option.some.inj hm
      exact hE _ hm.symm cls dd F H k.dropAll rE
    ·
      subst eb
      have hm := hF hm
      have r_words := (rLst rStr).up e r_words
      have r_seen := (rLst (rOpt (rTup K rInt))).up e r_seen
      have r_hidden := (rLst (rOpt (rTup K rInt))).up e r_hidden
      obtain ⟨rv, hv, hm⟩ := bind_some hm
      have hm := Option.some.inj hm
      cases hm
      exact a_ret (em_make4_3 (em_varf (i := 2) fl_int rfl r_size) (em_allSL (em_var (i := 4) rfl r_seen)) (em_allSL (em_var (i := 5) rfl r_hidden))) hv k fun v F H e k r => hQ _ rfl v F H k.dropAll r
abbrev s_read_line : Stmt := topS 44
abbrev N_read_line : List PySem.Str := ["text", "places", "word"]
theorem sc_read_line : FnScope N_read_line ["text"] (defScope s_read_line) := ⟨rfl, rfl, rfl, by decide +kernel, rfl, by decide +kernel, by decide +kernel⟩
def sp_read_line (K : PySem.W.Frag) : Sp := (Xsp K erL (gpC rStr gpN) (rO2 (He.ga K "Line") "origin" "stride" (rTup K rInt) (rTup K rInt)) (fun d => m_read_line d.1))
theorem ok_read_line {P : Program} {w : World} {K : PySem.W.Frag} {mg : PySem.Str → Option Value} {base : Heap} (T : Txt mg) (L : ClsF K mg) (E_ : ErrF K mg erL) (C_ei : CalE P w K mg base erL) (C_Line___init__ : CalIX P w K mg base 3 (He.ga K "Line") ["self", "start", "step"] (sp_Line___init__ K) (fun _ => True)) (C_place_of : Cal P w K mg base 2 "place_of" ["word"] (sp_place_of K) (fun _ => True)) {f : Addr} {fd : FuncData} (Fn : FnP K "read_line" s_read_line f fd) : FnOk P w K mg base (L2.CX P w) 5 f fd ["text"] (sp_read_line K) := by
  obtain ⟨f_Line___init__, fd_Line___init__, G_Line___init__, M_Line___init__, b_Line___init__, _⟩ := C_Line___init__.ex
  obtain ⟨f_place_of, fd_place_of, G_place_of, g_place_of, kp_place_of, b_place_of, _⟩ := C_place_of.ex
  obtain ⟨fd_ei, G_ei, b_ei⟩ := C_ei.ex
  refine Fn.ok sc_read_line (fun vs H Q E h => Xsp_len h) (fun cdv A outer s H vs Q E hr h => ?_)
  obtain ⟨F, ⟨text, ⟨⟩⟩, res, ex, ⟨v_text, w0_, rfl, r_text, rfl⟩, hm, hQ, hE⟩ := h
  have k := Cov.init ex
  have r_text : rStr.r F v_text text := r_text
  have hm : m_read_line text = some res := hm
  generalize hc : Act.mk H F [] = c at k hQ hE
  unfold m_read_line at hm
  refine ⟨_, (pss_cons (ps_setLc (i := 1) (own := [("word", 2)]) (g := (gName 2)) (tt := tYes) rfl sc_read_line.nd rfl rfl (sw_true rfl rfl rfl (by decide +kernel)) (pi_listK K rfl (pe_split (pv 0) pe_str)) (blkOk_by (N := N_read_line) (sc := defScope s_read_line) (by decide +kernel)) (fun _ _ _ _ _ => (pg_name (i := 2) sc_read_line.nd rfl (Or.inl rfl))) (fun _ _ _ _ _ => pts_nil) (fun _ _ _ _ _ => (pe_call G_place_of (hr.mono (by decide)) (by rfl) g_place_of kp_place_of b_place_of .nil pass0 (pa_cons (pv 2) pa_nil)))) (pss_cons (ps_if (PW.pt (pw_or (pt_cmpR op_ne (pe_callB (call_len_seqK K rfl) (by rfl) T.b_len PySem.boot_len (pa_cons (pv 1) pa_nil)) pe_int (nomark _)) (pw_or1 (pt_cmpR (op_inDK K rfl (un65 hr)) pe_non (pv 1) rfl)))) (pss_one (ps_raise rfl (takes_of rfl rfl rfl rfl) (pmk_oex (E_.oex _ er_Unreadable) (E_.ini _ er_Unreadable) E_.fnI G_ei (hr.mono (by decide)) b_ei .nil pass0 (by rfl) (E_.glo _ er_Unreadable) (pa_cons (pv 0) pa_nil)))) pss_nil) (pss_one (ps_try_thru0 (pss_one (ps_ret (pe_make M_Line___init__ G_Line___init__ (hr.mono (by decide)) (by rfl) L.g_Line b_Line___init__ .nil passL (pa_cons (pe_ix (ix_listK K rfl) (pv 1) pe_int (fun _ _ => rfl)) (pa_cons (pe_ix (ix_listK K rfl) (pv 1) pe_int (fun _ _ => rfl)) pa_nil))))))))), ?_⟩
  show (_ : TS) _ [some v_text, none, none] _
  obtain ⟨places_n, hx, hm⟩ := bind_some hm
  refine q_set ((ef_lc (K := K) (t := yes) (f := fun (word : PySem.Str) => (m_place_of word)) (S := (fun d F1 σ2 => ∃ v_word, σ2 = [some v_text, none, some v_word] ∧ rStr.r F1 v_word d)) (ei_list ((ef_split (em_varf (i := 0) fl_str rfl r_text) em_str)).em) (gt_name (fun _ => rfl)) (fun d F1 σ2 hs => by obtain ⟨_, rfl, _⟩ := hs; rfl) (fun _ _ _ _ _ => et_yes) (by intro word F1 σ2 e1 hs; obtain ⟨v_word, rfl, r_word⟩ := hs; exact (em_Pcall1t (em_varf (i := 2) fl_str rfl r_word))))).em hx k fun v_places F H e k r_places => ?_
  obtain ⟨places, ez_⟩ : ∃ z, z = places_n := ⟨_, rfl⟩; subst ez_
  show (_ : TS) _ [some v_text, some v_places, none] _
  obtain ⟨b, hb, hm⟩ := bind_some hm
  refine q_ife (et_or (et_test (em_op vo_neI (el_len ((em_var (i := 1) rfl r_places)).el) em_int)) (et_test (em_inD (dq_opt (dq_tup dq_int) fun _ => ⟨rfl, rfl⟩) (Nat.le_of_ble_eq_true rfl) (em_non (ra := (rTup K rInt))) ((em_var (i := 1) rfl r_places)).el))) hb k (fun eb F H e k => ?_) (fun eb F H e k => ?_)
  ·
    subst eb
    have hm := hT hm
    have r_places := (rLst (rOpt (rTup K rInt))).up e r_places
    obtain ⟨p_, hx, hm⟩ := bind_some hm
    refine a_raise (W := fun cls d _ H => E cls d H) (σ := [some v_text, some v_places, none]) E_ er_Unreadable (pay := Pay.str) py_str (em_varf (i := 0) fl_str rfl r_text) hx k fun cls dd F H e k rE => ?_
    have r_places := (rLst (rOpt (rTup K rInt))).up e r_places
    have hm := Option.some.inj hm
    exact hE _ hm.symm cls dd F H k.dropAll rE
  ·
    subst eb
    have hm := hF hm
    have r_places := (rLst (rOpt (rTup K rInt))).up e r_places
    obtain ⟨rv, hv, hm⟩ := bind_some hm
    have hm := Option.some.inj hm
    cases hm
    exact a_ret (em_eq (m' := ((o2 (fun a0 a1 => mkX finO2 (m_Line___init__ (none, none) a0 a1)) ((o2 ixG (some places) (some 0)).bind fun o => o) ((o2 ixG (some places) (some 1)).bind fun o => o)).bind okG)) (em_Xmake mkd_O2 (eag_cons (em_unO (el_ix ((em_var (i := 1) rfl r_places)).el em_int)) (eag_cons (em_unO (el_ix ((em_var (i := 1) rfl r_places)).el em_int)) eag_nil))) (congrArg (fun z => z.bind okG) (gx2 (f := (fun a0 a1 => mkX finO2 (m_Line___init__ (none, none) a0 a1)))))) hv k fun v F H e k r => hQ _ rfl v F H k.dropAll r
abbrev s_spring : Stmt := topS 46
abbrev N_spring : List PySem.Str := ["_law_cell", "_law_k", "_law_state"]
theorem sc_spring : FnScope N_spring ["_law_cell", "_law_k"] (defScope s_spring) := ⟨rfl, rfl, rfl, by decide +kernel, rfl, by decide +kernel, by decide +kernel⟩
def sp_spring (K : PySem.W.Frag) : Sp := (Fsp2 rInt rInt rInt m_spring)
theorem ok_spring {P : Program} {w : World} {K : PySem.W.Frag} {mg : PySem.Str → Option Value} {base : Heap} (T : Txt mg) (L : ClsF K mg) (E_ : ErrF K mg erL) {f : Addr} {fd : FuncData} (Fn : FnP K "_law_spring" s_spring f fd) : FnOk P w K mg base CX0 1 f fd ["_law_cell", "_law_k"] (sp_spring K) := by
  refine Fn.ok sc_spring (fun vs H Q E h => Fsp2_len h) (fun cdv A outer s H vs Q E hr h => ?_)
  obtain ⟨F, v_cell, v_k_, cell, k_, res, rfl, ex, r_cell, r_k_, hm, hQ⟩ := h
  have k := Cov.init ex
  generalize hc : Act.mk H F [] = c at k hQ
  unfold m_spring at hm
  refine ⟨_, PSs.nox (pss_cons (ps_set (i := 2) sc_spring.nd rfl (Or.inl rfl) (pe_op op_mod (pe_callTy call_int1 (by rfl) T.b_int (by decide +kernel) (pa_cons (pe_op op_add (pe_op op_add (pe_op op_mulI (pv 0) pe_int) (pe_op op_mulI pe_int (pv 1))) pe_int) pa_nil)) pe_int)) (pss_one (ps_ret (pe_lst (pa_cons (pe_callB (call_max2 rfl) (by rfl) T.b_max (by decide +kernel) (pa_cons pe_int (pa_cons (pe_op op_sub (pv 0) (pe_op op_pow pe_int pe_int)) pa_nil))) (pa_cons (pv 2) (pa_cons (pv 1) pa_nil))))))), ?_⟩
  show (_ : TS) _ [some v_cell, some v_k_, none] _
  obtain ⟨state_n, hx, hm⟩ := bind_some hm
  refine q_set (em_op vo_mod (em_cb vc_int (em_op vo_add (em_op vo_add (em_op vo_mul (em_varf (i := 0) fl_int rfl r_cell) em_int) (em_op vo_mul em_int (em_varf (i := 1) fl_int rfl r_k_))) em_int)) em_int) hx k fun v_state F H e k r_state => ?_
  obtain ⟨state, ez_⟩ : ∃ z, z = state_n := ⟨_, rfl⟩; subst ez_
  show (_ : TS) _ [some v_cell, some v_k_, some v_state] _
  obtain ⟨rv, hv, hm⟩ := bind_some hm
  have hm := Option.some.inj hm
  cases hm
  exact a_retF (ef_lst (ea_cons (em_cb2 vc_max em_int (em_op vo_sub (em_varf (i := 0) fl_int rfl r_cell) (em_powC (n := 18) rfl (by decide) (by decide)))) (ea_cons (em_varf (i := 2) fl_int rfl r_state) (ea_cons (em_varf (i := 1) fl_int rfl r_k_) ea_nil)))) hv k fun q F H e k => hQ q F H k.last1
abbrev s_sip : Stmt := topS 47
abbrev N_sip : List PySem.Str := ["_law_spring_here", "_law_many", "_law_found", "_law_mixed"]
theorem sc_sip : FnScope N_sip ["_law_spring_here", "_law_many"] (defScope s_sip) := ⟨rfl, rfl, rfl, by decide +kernel, rfl, by decide +kernel, by decide +kernel⟩
def sp_sip (K : PySem.W.Frag) : Sp := (MPsp1 (fun z => cLst rInt z) rInt rInt m_sip)
theorem ok_sip {P : Program} {w : World} {K : PySem.W.Frag} {mg : PySem.Str → Option Value} {base : Heap} (T : Txt mg) (L : ClsF K mg) (E_ : ErrF K mg erL) {f : Addr} {fd : FuncData} (Fn : FnP K "_law_sip" s_sip f fd) : FnOk P w K mg base CX0 1 f fd ["_law_spring_here", "_law_many"] (sp_sip K) := by
  refine Fn.ok sc_sip (fun vs H Q E h => MPsp1_len h) (fun cdv A outer s H vs Q E hr h => ?_)
  obtain ⟨F, p_spring_here, v_many, spring_here, many, res, s_out, rfl, k, r_many, hm, hQ⟩ := h
  generalize hc : Act.mk H F [p_spring_here] = c at k hQ
  unfold m_sip at hm
  refine ⟨_, PSs.nox (pss_cons (ps_if (pt_cmpR op_gt (pe_ix (ix_listK K rfl) (pv 0) pe_int (fun _ _ => rfl)) pe_int (nomark _)) (pss_cons (ps_set (i := 2) sc_sip.nd rfl (Or.inl rfl) (pe_op op_mod (pe_callTy call_int1 (by rfl) T.b_int (by decide +kernel) (pa_cons (pe_ix (ix_listK K rfl) (pv 0) pe_int (fun _ _ => rfl)) pa_nil)) (pv 1))) (pss_cons (ps_asg (pe_op op_fdivF (pe_ix (ix_listK K rfl) (pv 0) pe_int (fun _ _ => rfl)) (pv 1)) (pg_sub (pv 0) pe_int set_list)) (pss_one (ps_ret (pv 2))))) pss_nil) (pss_cons (ps_asg (pe_op op_add (pe_ix (ix_listK K rfl) (pv 0) pe_int (fun _ _ => rfl)) pe_int) (pg_sub (pv 0) pe_int set_list)) (pss_cons (ps_set (i := 3) sc_sip.nd rfl (Or.inl rfl) (pe_op op_add (pe_op op_add (pe_op op_mulI (pe_ix (ix_listK K rfl) (pv 0) pe_int (fun _ _ => rfl)) (pe_op op_add (pe_ix (ix_listK K rfl) (pv 0) pe_int (fun _ _ => rfl)) pe_int)) (pe_op op_mulI pe_int (pe_ix (ix_listK K rfl) (pv 0) pe_int (fun _ _ => rfl)))) pe_int)) (pss_cons (ps_asg (pe_op op_mod (pe_callTy call_int1 (by rfl) T.b_int (by decide +kernel) (pa_cons (pv 3) pa_nil)) pe_int) (pg_sub (pv 0) pe_int set_list)) (pss_one (ps_ret (pe_op op_mod (pe_callTy call_int1 (by rfl) T.b_int (by decide +kernel) (pa_cons (pe_op op_fdivF (pe_ix (ix_listK K rfl) (pv 0) pe_int (fun _ _ => rfl)) pe_int) pa_nil)) (pv 1)))))))), ?_⟩
  show (_ : TS) _ [some (.ref p_spring_here), some v_many, none, none] _
  obtain ⟨b, hb, hm⟩ := bind_some hm
  refine q_ife (et_test (em_op vo_gt (el_ix (el_cell (i := 0) (j := 0) rfl rfl) em_int) em_int)) hb k (fun eb F H e k => ?_) (fun eb F H e k => ?_)
  ·
    subst eb
    have hm := hT hm
    obtain ⟨found_n, hx, hm⟩ := bind_some hm
    refine q_set (em_op vo_mod (em_cb vc_int (el_ix (el_cell (i := 0) (j := 0) rfl rfl) em_int)) (em_varf (i := 1) fl_int rfl r_many)) hx k fun v_found F H e k r_found => ?_
    obtain ⟨found, ez_⟩ : ∃ z, z = found_n := ⟨_, rfl⟩; subst ez_
    show (_ : TS) _ [some (.ref p_spring_here), some v_many, some v_found, none] _
    obtain ⟨val, hx, hm⟩ := bind_some hm
    obtain ⟨ix, hi, hm⟩ := bind_some hm
    obtain ⟨spring_here_n, hs, hm⟩ := bind_some hm
    refine q_sub (i := 0) (j := 0) rfl rfl (em_op vo_div (el_ix (el_cell (i := 0) (j := 0) rfl rfl) em_int) (em_varf (i := 1) fl_int rfl r_many)) em_int hx hi hs k fun F H e k => ?_
    obtain ⟨spring_here, ez_⟩ : ∃ z, z = spring_here_n := ⟨_, rfl⟩; subst ez_
    have k : Cov c F [(p_spring_here, cLst rInt spring_here)] H := k
    obtain ⟨rv, hv, hm⟩ := bind_some hm
    have hm := Option.some.inj hm
    cases hm
    exact a_ret (em_varf (i := 2) fl_int rfl r_found) hv k fun v F H e k r => hQ v F H (k.keepN 1) r
  ·
    subst eb
    have hm := hF hm
    obtain ⟨val, hx, hm⟩ := bind_some hm
    obtain ⟨ix, hi, hm⟩ := bind_some hm
    obtain ⟨spring_here_n, hs, hm⟩ := bind_some hm
    refine q_sub (i := 0) (j := 0) rfl rfl (em_op vo_add (el_ix (el_cell (i := 0) (j := 0) rfl rfl) em_int) em_int) em_int hx hi hs k fun F H e k => ?_
    obtain ⟨spring_here, ez_⟩ : ∃ z, z = spring_here_n := ⟨_, rfl⟩; subst ez_
    have k : Cov c F [(p_spring_here, cLst rInt spring_here)] H := k
    obtain ⟨mixed_n, hx, hm⟩ := bind_some hm
    refine q_set (em_op vo_add (em_op vo_add (em_op vo_mul (el_ix (el_cell (i := 0) (j := 0) rfl rfl) em_int) (em_op vo_add (el_ix (el_cell (i := 0) (j := 0) rfl rfl) em_int) em_int)) (em_op vo_mul em_int (el_ix (el_cell (i := 0) (j := 0) rfl rfl) em_int))) em_int) hx k fun v_mixed F H e k r_mixed => ?_
    obtain ⟨mixed, ez_⟩ : ∃ z, z = mixed_n := ⟨_, rfl⟩; subst ez_
    show (_ : TS) _ [some (.ref p_spring_here), some v_many, none, some v_mixed] _
    obtain ⟨val, hx, hm⟩ := bind_some hm
    obtain ⟨ix, hi, hm⟩ := bind_some hm
    obtain ⟨spring_here_n, hs, hm⟩ := bind_some hm
    refine q_sub (i := 0) (j := 0) rfl rfl (em_op vo_mod (em_cb vc_int (em_varf (i := 3) fl_int rfl r_mixed)) em_int) em_int hx hi hs k fun F H e k => ?_
    obtain ⟨spring_here, ez_⟩ : ∃ z, z = spring_here_n := ⟨_, rfl⟩; subst ez_
    have k : Cov c F [(p_spring_here, cLst rInt spring_here)] H := k
    obtain ⟨rv, hv, hm⟩ := bind_some hm
    have hm := Option.some.inj hm
    cases hm
    exact a_ret (em_op vo_mod (em_cb vc_int (em_op vo_div (el_ix (el_cell (i := 0) (j := 0) rfl rfl) em_int) em_int)) (em_varf (i := 1) fl_int rfl r_many)) hv k fun v F H e k r => hQ v F H (k.keepN 1) r
abbrev s_far : Stmt := topS 48
abbrev N_far : List PySem.Str := ["_law_spring_here", "_law_wide", "_law_found", "_law_piece"]
theorem sc_far : FnScope N_far ["_law_spring_here", "_law_wide"] (defScope s_far) := ⟨rfl, rfl, rfl, by decide +kernel, rfl, by decide +kernel, by decide +kernel⟩
def sp_far (K : PySem.W.Frag) : Sp := (MPsp1 (fun z => cLst rInt z) rInt rInt m_far)
theorem ok_far {P : Program} {w : World} {K : PySem.W.Frag} {mg : PySem.Str → Option Value} {base : Heap} (T : Txt mg) (L : ClsF K mg) (E_ : ErrF K mg erL) (C_sip : Cal P w K mg base 1 "_law_sip" ["_law_spring_here", "_law_many"] (sp_sip K) (fun _ => True)) {f : Addr} {fd : FuncData} (Fn : FnP K "_law_far" s_far f fd) : FnOk P w K mg base CX0 2 f fd ["_law_spring_here", "_law_wide"] (sp_far K) := by
  obtain ⟨f_sip, fd_sip, G_sip, g_sip, kp_sip, b_sip, _⟩ := C_sip.ex
  refine Fn.ok sc_far (fun vs H Q E h => MPsp1_len h) (fun cdv A outer s H vs Q E hr h => ?_)
  obtain ⟨F, p_spring_here, v_wide, spring_here, wide, res, s_out, rfl, k, r_wide, hm, hQ⟩ := h
  generalize hc : Act.mk H F [p_spring_here] = c at k hQ
  unfold m_far at hm
  refine ⟨_, PSs.nox (pss_cons (ps_set (i := 2) sc_far.nd rfl (Or.inl rfl) pe_int) (pss_cons (ps_for PassesOwn.never rfl (pi_range1 (by rfl) T.b_range (pa_cons pe_int pa_nil)) (pg_name (i := 3) sc_far.nd rfl (Or.inl rfl)) (pss_one (ps_set (i := 2) sc_far.nd rfl (Or.inl rfl) (pe_op op_add (pe_op op_mulI (pv 2) (pe_op op_pow pe_int pe_int)) (pe_call G_sip (hr.mono (by decide)) (by rfl) g_sip kp_sip b_sip .nil pass0 (pa_cons (pv 0) (pa_cons (pe_op op_pow pe_int pe_int) pa_nil))))))) (pss_one (ps_ret (pe_op op_add (pe_op op_sub (pe_op op_mod (pe_callTy call_int1 (by rfl) T.b_int (by decide +kernel) (pa_cons (pv 2) pa_nil)) (pe_op op_sub (pe_op op_mulI pe_int (pv 1)) pe_int)) (pv 1)) pe_int))))), ?_⟩
  show (_ : TS) _ [some (.ref p_spring_here), some v_wide, none, none] _
  obtain ⟨found_n, hx, hm⟩ := bind_some hm
  refine q_set em_int hx k fun v_found F H e k r_found => ?_
  obtain ⟨found, ez_⟩ : ∃ z, z = found_n := ⟨_, rfl⟩; subst ez_
  show (_ : TS) _ [some (.ref p_spring_here), some v_wide, some v_found, none] _
  obtain ⟨l_, hl, hm⟩ := bind_some hm
  obtain ⟨g1_, hf, hm⟩ := bind_some hm
  refine sq ?_
  refine a_for (ei_rng1 em_int) hl k hf fun F H e k => ⟨fun g σ1 F1 H1 => ∃ v_found w_piece, σ1 = [some (.ref p_spring_here), some v_wide, some v_found, w_piece] ∧ Ex F F1 ∧ Cov c F1 [(p_spring_here, cLst rInt g.2)] H1 ∧ rInt.r F1 v_found g.1, fun g => [(p_spring_here, cLst rInt g.2)], ?_, ?_, ?_, ?_⟩
  · exact ⟨v_found, _, rfl, Evl.Ex.refl _, k, rInt.up e r_found⟩
  · rintro g σ1 F1 H1 ⟨_, _, rfl, e1, k1, _⟩
    exact ⟨e1, k1⟩
  · rintro d v ⟨found, spring_here⟩ g2 σ1 F1 H1 F H ⟨v_found, w_piece, rfl, eL13, _, r_found⟩ e1 k rd hm
    have eL13 := eL13.trans e1
    obtain ⟨piece, ez_⟩ : ∃ z, z = d := ⟨_, rfl⟩; subst ez_
    obtain ⟨v_piece, ez_⟩ : ∃ z, z = v := ⟨_, rfl⟩; subst ez_
    have r_piece := rd
    refine gn (σ1 := [some (.ref p_spring_here), some v_wide, some v_found, some v_piece]) rfl ?_
    obtain ⟨⟨found_n, spring_here_n⟩, hx, hm⟩ := bind_some hm
    refine a_setS (cs' := (fun spring_here => [(p_spring_here, cLst rInt spring_here)])) (sm_op (cs := (fun spring_here => [(p_spring_here, cLst rInt spring_here)])) (s := spring_here) vo_add (EM.sm (cs := (fun spring_here => [(p_spring_here, cLst rInt spring_here)])) (s := spring_here) (em_op vo_mul (em_varf (i := 2) fl_int rfl r_found) (em_powC (n := 20) rfl (by decide) (by decide)))) fun spring_here => (sm_Mcall1 (cs := (fun spring_here => [(p_spring_here, cLst rInt spring_here)])) (s := spring_here) (cell := fun z => cLst rInt z) (i0 := 0) (j0 := 0) rfl (fun _ => rfl) (fun _ _ => rfl) (EM.sm (cs := (fun spring_here => [(p_spring_here, cLst rInt spring_here)])) (s := spring_here) (em_powC (n := 20) rfl (by decide) (by decide))))) hx k fun v_found F H e k r_found => ?_
    obtain ⟨found, ez_⟩ : ∃ z, z = found_n := ⟨_, rfl⟩; subst ez_
    obtain ⟨spring_here, ez_⟩ : ∃ z, z = spring_here_n := ⟨_, rfl⟩; subst ez_
    have k : Cov c F [(p_spring_here, cLst rInt spring_here)] H := k
    have eL13 := eL13.trans e
    have hm := Option.some.inj hm
    subst hm
    exact ⟨F, v_found, _, rfl, eL13, k, r_found⟩
  obtain ⟨found, spring_here⟩ := g1_
  rintro σ1 F H ⟨v_found, w_piece, rfl, e1, k, r_found⟩
  refine nxh ?_
  obtain ⟨rv, hv, hm⟩ := bind_some hm
  have hm := Option.some.inj hm
  cases hm
  exact a_ret (em_op vo_add (em_op vo_sub (em_op vo_mod (em_cb vc_int (em_varf (i := 2) fl_int rfl r_found)) (em_op vo_sub (em_op vo_mul em_int (em_varf (i := 1) fl_int rfl r_wide)) em_int)) (em_varf (i := 1) fl_int rfl r_wide)) em_int) hv k fun v F H e k r => hQ v F H (k.keepN 1) r
abbrev s_spots : Stmt := topS 49
abbrev N_spots : List PySem.Str := ["_law_spring_here", "_law_axes", "_law_many", "_law_held", "_law_shape", "_law_wide", "_law_base", "_law_step", "_law_taken", "_law_spot", "_law_found", "_law_count", "_law_made", "_law_k"]
theorem sc_spots : FnScope N_spots ["_law_spring_here", "_law_axes", "_law_many", "_law_held"] (defScope s_spots) := ⟨rfl, rfl, rfl, by decide +kernel, rfl, by decide +kernel, by decide +kernel⟩
def sp_spots (K : PySem.W.Frag) : Sp := (MPsp3 (fun z => cLst rInt z) rInt rInt (rLst (rTup K rInt)) (rLst (rTup K rInt)) m_spots)
theorem ok_spots {P : Program} {w : World} {K : PySem.W.Frag} {mg : PySem.Str → Option Value} {base : Heap} (T : Txt mg) (L : ClsF K mg) (E_ : ErrF K mg erL) (C_sip : Cal P w K mg base 1 "_law_sip" ["_law_spring_here", "_law_many"] (sp_sip K) (fun _ => True)) (C_far : Cal P w K mg base 2 "_law_far" ["_law_spring_here", "_law_wide"] (sp_far K) (fun _ => True)) {f : Addr} {fd : FuncData} (Fn : FnP K "_law_spots" s_spots f fd) : FnOk P w K mg base CX0 3 f fd ["_law_spring_here", "_law_axes", "_law_many", "_law_held"] (sp_spots K) := by
  obtain ⟨f_sip, fd_sip, G_sip, g_sip, kp_sip, b_sip, _⟩ := C_sip.ex
  obtain ⟨f_far, fd_far, G_far, g_far, kp_far, b_far, _⟩ := C_far.ex
  refine Fn.ok sc_spots (fun vs H Q E h => MPsp3_len h) (fun cdv A outer s H vs Q E hr h => ?_)
  obtain ⟨F, p_spring_here, v_axes, v_many, v_held, spring_here, axes, many, held, res, s_out, rfl, k, r_axes, r_many, r_held, hm, hQ⟩ := h
  generalize hc : Act.mk H F [p_spring_here] = c at k hQ
  unfold m_spots at hm
  refine ⟨_, PSs.nox (pss_cons (ps_set (i := 4) sc_spots.nd rfl (Or.inl rfl) (pe_call G_sip (hr.mono (by decide)) (by rfl) g_sip kp_sip b_sip .nil pass0 (pa_cons (pv 0) (pa_cons pe_int pa_nil)))) (pss_cons (ps_set (i := 5) sc_spots.nd rfl (Or.inr rfl) (pe_ix (ix_listK K rfl) (pe_lst (pa_cons pe_int (pa_cons pe_int (pa_cons pe_int (pa_cons (pe_op op_pow pe_int pe_int) pa_nil))))) (pv 4) (fun _ _ => rfl))) (pss_cons (ps_set (i := 6) sc_spots.nd rfl (Or.inr rfl) (pe_lc (own := [("_law_k", 13)]) (g := (gName 13)) (tt := tYes) rfl sc_spots.nd (pi_range1 (by rfl) T.b_range (pa_cons (pv 1) pa_nil)) (blkOk_by (N := N_spots) (sc := defScope s_spots) (by decide +kernel)) (fun _ _ _ _ _ => (pg_name (i := 13) sc_spots.nd rfl (Or.inl rfl))) (fun _ _ _ _ _ => pts_nil) (fun _ _ _ _ _ => (pe_call G_far (hr.mono (by decide)) (by rfl) g_far kp_far b_far .nil pass0 (pa_cons (pv 0) (pa_cons (pv 5) pa_nil)))))) (pss_cons (ps_set (i := 7) sc_spots.nd rfl (Or.inr rfl) (pe_lc (own := [("_law_k", 13)]) (g := (gName 13)) (tt := tYes) rfl sc_spots.nd (pi_range1 (by rfl) T.b_range (pa_cons (pv 1) pa_nil)) (blkOk_by (N := N_spots) (sc := defScope s_spots) (by decide +kernel)) (fun _ _ _ _ _ => (pg_name (i := 13) sc_spots.nd rfl (Or.inl rfl))) (fun _ _ _ _ _ => pts_nil) (fun _ _ _ _ _ => (pe_op op_sub (pe_call G_sip (hr.mono (by decide)) (by rfl) g_sip kp_sip b_sip .nil pass0 (pa_cons (pv 0) (pa_cons pe_int pa_nil))) pe_int)))) (pss_cons (ps_set (i := 8) sc_spots.nd rfl (Or.inl rfl) pe_dnewT) (pss_cons (ps_for PassesOwn.never rfl (pi_listK K rfl (pv 3)) (pg_name (i := 9) sc_spots.nd rfl (Or.inl rfl)) (pss_one (ps_dput (un1 hr) (pv 8) (pv 9) pe_bl (by rfl)))) (pss_cons (ps_set (i := 10) sc_spots.nd rfl (Or.inl rfl) (pe_lst pa_nil)) (pss_cons (ps_for PassesOwn.never rfl (pi_range1 (by rfl) T.b_range (pa_cons (pv 2) pa_nil)) (pg_name (i := 11) sc_spots.nd rfl (Or.inr rfl)) (pss_cons (ps_set (i := 12) sc_spots.nd rfl (Or.inl rfl) (pe_callTy (call_tuple_ofK K rfl) (by rfl) T.b_tuple (by decide +kernel) (pa_cons (pe_lc (own := [("_law_k", 13)]) (g := (gName 13)) (tt := tYes) rfl sc_spots.nd (pi_range1 (by rfl) T.b_range (pa_cons (pv 1) pa_nil)) (blkOk_by (N := N_spots) (sc := defScope s_spots) (by decide +kernel)) (fun _ _ _ _ _ => (pg_name (i := 13) sc_spots.nd rfl (Or.inl rfl))) (fun _ _ _ _ _ => pts_nil) (fun _ _ _ _ _ => (pe_op op_add (pe_ix (ix_listK K rfl) (pv 6) (pv 13) (fun _ _ => rfl)) (pe_op op_mulI (pe_ix (ix_listK K rfl) (pv 7) (pv 13) (fun _ _ => rfl)) (pv 11))))) pa_nil))) (Evl.pss_cut (ps_if (PW.pt (pw_and (pt_cmpR op_lt (pv 4) pe_int (nomark _)) (pw_and1 (pt_cmpR op_lt (pv 2) pe_int (nomark _))))) (pss_one (ps_set (i := 12) sc_spots.nd rfl (Or.inl rfl) (pe_callTy (call_tuple_ofK K rfl) (by rfl) T.b_tuple (by decide +kernel) (pa_cons (pe_lc (own := [("_law_k", 13)]) (g := (gName 13)) (tt := tYes) rfl sc_spots.nd (pi_range1 (by rfl) T.b_range (pa_cons (pv 1) pa_nil)) (blkOk_by (N := N_spots) (sc := defScope s_spots) (by decide +kernel)) (fun _ _ _ _ _ => (pg_name (i := 13) sc_spots.nd rfl (Or.inl rfl))) (fun _ _ _ _ _ => pts_nil) (fun _ _ _ _ _ => (pe_op op_add (pe_op op_sub (pe_call G_sip (hr.mono (by decide)) (by rfl) g_sip kp_sip b_sip .nil pass0 (pa_cons (pv 0) (pa_cons (pe_op op_sub (pe_op op_mulI pe_int (pv 5)) pe_int) pa_nil))) (pv 5)) pe_int))) pa_nil)))) pss_nil) (pss_one (ps_if (pt_cmp (pc_dnotin (un1 hr) (pv 12) (pv 8))) (pss_cons (ps_dput (un1 hr) (pv 8) (pv 12) pe_bl (by rfl)) (pss_one (ps_expr (pe_bm PySem.F.plainAttrs_list PySem.F.slot_list_append PySem.F.type_list_append mt_append (pv 10) (pa_cons (pv 12) pa_nil))))) pss_nil))))) (pss_one (ps_ret (pv 10))))))))))), ?_⟩
  show (_ : TS) _ [some (.ref p_spring_here), some v_axes, some v_many, some v_held, none, none, none, none, none, none, none, none, none, none] _
  obtain ⟨⟨shape_n, spring_here_n⟩, hx, hm⟩ := bind_some hm
  refine q_setS (cs' := (fun spring_here => [(p_spring_here, cLst rInt spring_here)])) (sm_Mcall1 (cs := (fun spring_here => [(p_spring_here, cLst rInt spring_here)])) (s := spring_here) (cell := fun z => cLst rInt z) (i0 := 0) (j0 := 0) rfl (fun _ => rfl) (fun _ _ => rfl) (EM.sm (cs := (fun spring_here => [(p_spring_here, cLst rInt spring_here)])) (s := spring_here) em_int)) hx k fun v_shape F H e k r_shape => ?_
  obtain ⟨shape, ez_⟩ : ∃ z, z = shape_n := ⟨_, rfl⟩; subst ez_
  obtain ⟨spring_here, ez_⟩ : ∃ z, z = spring_here_n := ⟨_, rfl⟩; subst ez_
  have k : Cov c F [(p_spring_here, cLst rInt spring_here)] H := k
  show (_ : TS) _ [some (.ref p_spring_here), some v_axes, some v_many, some v_held, some v_shape, none, none, none, none, none, none, none, none, none] _
  have r_held := (rLst (rTup K rInt)).up e r_held
  obtain ⟨wide_n, hx, hm⟩ := bind_some hm
  refine q_set (el_ix ((ef_lst (ea_cons em_int (ea_cons em_int (ea_cons em_int (ea_cons (em_powC (n := 39) rfl (by decide) (by decide)) ea_nil)))))).em.el (em_varf (i := 4) fl_int rfl r_shape)) hx k fun v_wide F H e k r_wide => ?_
  obtain ⟨wide, ez_⟩ : ∃ z, z = wide_n := ⟨_, rfl⟩; subst ez_
  show (_ : TS) _ [some (.ref p_spring_here), some v_axes, some v_many, some v_held, some v_shape, some v_wide, none, none, none, none, none, none, none, none] _
  have r_held := (rLst (rTup K rInt)).up e r_held
  obtain ⟨⟨base__n, spring_here_n⟩, hx, hm⟩ := bind_some hm
  refine q_setS (cs' := (fun spring_here => [(p_spring_here, cLst rInt spring_here)])) (SF.sm (cs := (fun spring_here => [(p_spring_here, cLst rInt spring_here)])) (s := spring_here) (sf_lc (K := K) (cs := (fun spring_here => [(p_spring_here, cLst rInt spring_here)])) (s := spring_here) (f := fun (k_ : Int) => fun spring_here => (s1 (fun a0 s => m_far s a0) (sP (some wide) spring_here))) (S := (fun d F1 σ2 => ∃ v_k_, σ2 = [some (.ref p_spring_here), some v_axes, some v_many, some v_held, some v_shape, some v_wide, none, none, none, none, none, none, none, some v_k_] ∧ rInt.r F1 v_k_ d)) (ei_rng1 (em_varf (i := 1) fl_int rfl r_axes)) (gt_name (fun _ => rfl)) (fun d F1 σ2 hs => by obtain ⟨_, rfl, _⟩ := hs; rfl) (by intro k_ F1 σ2 spring_here e1 hs; obtain ⟨v_k_, rfl, r_k_⟩ := hs; have r_held := (rLst (rTup K rInt)).up e1 r_held; exact (sm_Mcall1 (cs := (fun spring_here => [(p_spring_here, cLst rInt spring_here)])) (s := spring_here) (cell := fun z => cLst rInt z) (i0 := 0) (j0 := 0) rfl (fun _ => rfl) (fun _ _ => rfl) (EM.sm (cs := (fun spring_here => [(p_spring_here, cLst rInt spring_here)])) (s := spring_here) (em_varf (i := 5) fl_int rfl r_wide)))) (fun _ _ => rfl))) hx k fun v_base_ F H e k r_base_ => ?_
  obtain ⟨base_, ez_⟩ : ∃ z, z = base__n := ⟨_, rfl⟩; subst ez_
  obtain ⟨spring_here, ez_⟩ : ∃ z, z = spring_here_n := ⟨_, rfl⟩; subst ez_
  have k : Cov c F [(p_spring_here, cLst rInt spring_here)] H := k
  show (_ : TS) _ [some (.ref p_spring_here), some v_axes, some v_many, some v_held, some v_shape, some v_wide, some v_base_, none, none, none, none, none, none, none] _
  have r_held := (rLst (rTup K rInt)).up e r_held
  obtain ⟨⟨step_n, spring_here_n⟩, hx, hm⟩ := bind_some hm
  refine q_setS (cs' := (fun spring_here => [(p_spring_here, cLst rInt spring_here)])) (SF.sm (cs := (fun spring_here => [(p_spring_here, cLst rInt spring_here)])) (s := spring_here) (sf_lc (K := K) (cs := (fun spring_here => [(p_spring_here, cLst rInt spring_here)])) (s := spring_here) (f := fun (k_ : Int) => fun spring_here => (s2 (fun a b s => sK s (subG a b)) (s1 (fun a0 s => m_sip s a0) (sP (some 7) spring_here)) fun spring_here => (sP (some 3) spring_here))) (S := (fun d F1 σ2 => ∃ v_k_, σ2 = [some (.ref p_spring_here), some v_axes, some v_many, some v_held, some v_shape, some v_wide, some v_base_, none, none, none, none, none, none, some v_k_] ∧ rInt.r F1 v_k_ d)) (ei_rng1 (em_varf (i := 1) fl_int rfl r_axes)) (gt_name (fun _ => rfl)) (fun d F1 σ2 hs => by obtain ⟨_, rfl, _⟩ := hs; rfl) (by intro k_ F1 σ2 spring_here e1 hs; obtain ⟨v_k_, rfl, r_k_⟩ := hs; have r_held := (rLst (rTup K rInt)).up e1 r_held; have r_base_ := (rLst rInt).up e1 r_base_; exact (sm_op (cs := (fun spring_here => [(p_spring_here, cLst rInt spring_here)])) (s := spring_here) vo_sub (sm_Mcall1 (cs := (fun spring_here => [(p_spring_here, cLst rInt spring_here)])) (s := spring_here) (cell := fun z => cLst rInt z) (i0 := 0) (j0 := 0) rfl (fun _ => rfl) (fun _ _ => rfl) (EM.sm (cs := (fun spring_here => [(p_spring_here, cLst rInt spring_here)])) (s := spring_here) em_int)) fun spring_here => (EM.sm (cs := (fun spring_here => [(p_spring_here, cLst rInt spring_here)])) (s := spring_here) em_int))) (fun _ _ => rfl))) hx k fun v_step F H e k r_step => ?_
  obtain ⟨step, ez_⟩ : ∃ z, z = step_n := ⟨_, rfl⟩; subst ez_
  obtain ⟨spring_here, ez_⟩ : ∃ z, z = spring_here_n := ⟨_, rfl⟩; subst ez_
  have k : Cov c F [(p_spring_here, cLst rInt spring_here)] H := k
  show (_ : TS) _ [some (.ref p_spring_here), some v_axes, some v_many, some v_held, some v_shape, some v_wide, some v_base_, some v_step, none, none, none, none, none, none] _
  have r_held := (rLst (rTup K rInt)).up e r_held
  have r_base_ := (rLst rInt).up e r_base_
  obtain ⟨taken_n, hx, hm⟩ := bind_some hm
  have hx := Option.some.inj hx
  refine q_newD (rb := rBool) k fun p_taken F H e k n_taken => ?_
  rw [hx] at k
  obtain ⟨taken, ez_⟩ : ∃ z, z = taken_n := ⟨_, rfl⟩; subst ez_
  have k : Cov c F [(p_spring_here, cLst rInt spring_here), (p_taken, cDic rBool taken)] H := k
  show (_ : TS) _ [some (.ref p_spring_here), some v_axes, some v_many, some v_held, some v_shape, some v_wide, some v_base_, some v_step, some (.ref p_taken), none, none, none, none, none] _
  have r_held := (rLst (rTup K rInt)).up e r_held
  have r_base_ := (rLst rInt).up e r_base_
  have r_step := (rLst rInt).up e r_step
  obtain ⟨l_, hl, hm⟩ := bind_some hm
  obtain ⟨g1_, hf, hm⟩ := bind_some hm
  refine sq ?_
  refine a_for (ei_list (em_var (i := 3) rfl r_held)) hl k hf fun F H e k => ⟨fun g σ1 F1 H1 => ∃ w_spot, σ1 = [some (.ref p_spring_here), some v_axes, some v_many, some v_held, some v_shape, some v_wide, some v_base_, some v_step, some (.ref p_taken), w_spot, none, none, none, none] ∧ Ex F F1 ∧ Cov c F1 [(p_spring_here, cLst rInt spring_here), (p_taken, cDic rBool g)] H1, fun g => [(p_spring_here, cLst rInt spring_here), (p_taken, cDic rBool g)], ?_, ?_, ?_, ?_⟩
  · exact ⟨_, rfl, Evl.Ex.refl _, k⟩
  · rintro g σ1 F1 H1 ⟨_, rfl, e1, k1⟩
    exact ⟨e1, k1⟩
  · rintro d v taken g2 σ1 F1 H1 F H ⟨w_spot, rfl, eL14, _⟩ e1 k rd hm
    have eL14 := eL14.trans e1
    have r_held := (rLst (rTup K rInt)).up (e.trans eL14) r_held
    have r_base_ := (rLst rInt).up (e.trans eL14) r_base_
    have r_step := (rLst rInt).up (e.trans eL14) r_step
    obtain ⟨spot, ez_⟩ : ∃ z, z = d := ⟨_, rfl⟩; subst ez_
    obtain ⟨v_spot, ez_⟩ : ∃ z, z = v := ⟨_, rfl⟩; subst ez_
    have r_spot := rd
    refine gn (σ1 := [some (.ref p_spring_here), some v_axes, some v_many, some v_held, some v_shape, some v_wide, some v_base_, some v_step, some (.ref p_taken), some v_spot, none, none, none, none]) rfl ?_
    obtain ⟨val, hx, hm⟩ := bind_some hm
    obtain ⟨ix, hi, hm⟩ := bind_some hm
    obtain ⟨taken_n, hs, hm⟩ := bind_some hm
    refine a_dput (i := 8) (j := 1) rfl rfl em_bl (em_var (i := 9) rfl r_spot) hx hi hs k fun F H e k => ?_
    obtain ⟨taken, ez_⟩ : ∃ z, z = taken_n := ⟨_, rfl⟩; subst ez_
    have r_held := (rLst (rTup K rInt)).up e r_held
    have r_base_ := (rLst rInt).up e r_base_
    have r_step := (rLst rInt).up e r_step
    have r_spot := (rTup K rInt).up e r_spot
    have eL14 := eL14.trans e
    have k : Cov c F [(p_spring_here, cLst rInt spring_here), (p_taken, cDic rBool taken)] H := k
    have hm := Option.some.inj hm
    subst hm
    exact ⟨F, _, rfl, eL14, k⟩
  obtain ⟨taken, ez_⟩ : ∃ z, z = g1_ := ⟨_, rfl⟩; subst ez_
  rintro σ1 F H ⟨w_spot, rfl, e1, k⟩
  have r_held := (rLst (rTup K rInt)).up (e.trans e1) r_held
  have r_base_ := (rLst rInt).up (e.trans e1) r_base_
  have r_step := (rLst rInt).up (e.trans e1) r_step
  refine nxh ?_
  obtain ⟨found_n, hx, hm⟩ := bind_some hm
  refine q_setF (ef_lst (ra := (rTup K rInt)) ea_nil) hx k fun p_found F H e k n_found => ?_
  obtain ⟨found, ez_⟩ : ∃ z, z = found_n := ⟨_, rfl⟩; subst ez_
  show (_ : TS) _ [some (.ref p_spring_here), some v_axes, some v_many, some v_held, some v_shape, some v_wide, some v_base_, some v_step, some (.ref p_taken), w_spot, some (.ref p_found), none, none, none] _
  have r_held := (rLst (rTup K rInt)).up e r_held
  have r_base_ := (rLst rInt).up e r_base_
  have r_step := (rLst rInt).up e r_step
  obtain ⟨l_, hl, hm⟩ := bind_some hm
  obtain ⟨g1_, hf, hm⟩ := bind_some hm
  refine sq ?_
  refine a_for (ei_rng1 (em_varf (i := 2) fl_int rfl r_many)) hl k hf fun F H e k => ⟨fun g σ1 F1 H1 => ∃ w_made w_count, σ1 = [some (.ref p_spring_here), some v_axes, some v_many, some v_held, some v_shape, some v_wide, some v_base_, some v_step, some (.ref p_taken), w_spot, some (.ref p_found), w_count, w_made, none] ∧ Ex F F1 ∧ Cov c F1 [(p_spring_here, cLst rInt g.1), (p_taken, cDic rBool g.2.1), (p_found, cLst (rTup K rInt) g.2.2)] H1, fun g => [(p_spring_here, cLst rInt g.1), (p_taken, cDic rBool g.2.1), (p_found, cLst (rTup K rInt) g.2.2)], ?_, ?_, ?_, ?_⟩
  · exact ⟨_, _, rfl, Evl.Ex.refl _, k⟩
  · rintro g σ1 F1 H1 ⟨_, _, rfl, e1, k1⟩
    exact ⟨e1, k1⟩
  · rintro d v ⟨spring_here, taken, found⟩ g2 σ1 F1 H1 F H ⟨w_made, w_count, rfl, eL15, _⟩ e1 k rd hm
    have eL15 := eL15.trans e1
    have r_held := (rLst (rTup K rInt)).up (e.trans eL15) r_held
    have r_base_ := (rLst rInt).up (e.trans eL15) r_base_
    have r_step := (rLst rInt).up (e.trans eL15) r_step
    obtain ⟨count, ez_⟩ : ∃ z, z = d := ⟨_, rfl⟩; subst ez_
    obtain ⟨v_count, ez_⟩ : ∃ z, z = v := ⟨_, rfl⟩; subst ez_
    have r_count := rd
    refine gn (σ1 := [some (.ref p_spring_here), some v_axes, some v_many, some v_held, some v_shape, some v_wide, some v_base_, some v_step, some (.ref p_taken), w_spot, some (.ref p_found), some v_count, w_made, none]) rfl ?_
    obtain ⟨made_n, hx, hm⟩ := bind_some hm
    refine q_set (el_tuple ((ef_lc (K := K) (t := yes) (f := fun (k_ : Int) => (o2 addG (o2 ixG (some base_) (some k_)) (o2 mulG (o2 ixG (some step) (some k_)) (some count)))) (S := (fun d F1 σ2 => ∃ v_k_, σ2 = [some (.ref p_spring_here), some v_axes, some v_many, some v_held, some v_shape, some v_wide, some v_base_, some v_step, some (.ref p_taken), w_spot, some (.ref p_found), some v_count, w_made, some v_k_] ∧ rInt.r F1 v_k_ d)) (ei_rng1 (em_varf (i := 1) fl_int rfl r_axes)) (gt_name (fun _ => rfl)) (fun d F1 σ2 hs => by obtain ⟨_, rfl, _⟩ := hs; rfl) (fun _ _ _ _ _ => et_yes) (by intro k_ F1 σ2 e1 hs; obtain ⟨v_k_, rfl, r_k_⟩ := hs; have r_held := (rLst (rTup K rInt)).up e1 r_held; have r_base_ := (rLst rInt).up e1 r_base_; have r_step := (rLst rInt).up e1 r_step; exact (em_op vo_add (el_ix ((em_var (i := 6) rfl r_base_)).el (em_varf (i := 13) fl_int rfl r_k_)) (em_op vo_mul (el_ix ((em_var (i := 7) rfl r_step)).el (em_varf (i := 13) fl_int rfl r_k_)) (em_varf (i := 11) fl_int rfl r_count)))))).em.el) hx k fun v_made F H e k r_made => ?_
    obtain ⟨made, ez_⟩ : ∃ z, z = made_n := ⟨_, rfl⟩; subst ez_
    show (_ : TS) _ [some (.ref p_spring_here), some v_axes, some v_many, some v_held, some v_shape, some v_wide, some v_base_, some v_step, some (.ref p_taken), w_spot, some (.ref p_found), some v_count, some v_made, none] _
    have r_held := (rLst (rTup K rInt)).up e r_held
    have r_base_ := (rLst rInt).up e r_base_
    have r_step := (rLst rInt).up e r_step
    have eL15 := eL15.trans e
    obtain ⟨⟨made_j, spring_here_j⟩, hj, hm⟩ := bind_some hm
    refine q_cut (Mid := fun σ1 H1 => ∃ F1 v_made, σ1 = [some (.ref p_spring_here), some v_axes, some v_many, some v_held, some v_shape, some v_wide, some v_base_, some v_step, some (.ref p_taken), w_spot, some (.ref p_found), some v_count, some v_made, none] ∧ Ex F F1 ∧ Cov c F1 [(p_spring_here, cLst rInt spring_here_j), (p_taken, cDic rBool taken), (p_found, cLst (rTup K rInt) found)] H1 ∧ (rTup K rInt).r F1 v_made made_j) ?_ ?_
    ·
      have hm := hj
      have eJ16 : Ex F F := Evl.Ex.refl F
      obtain ⟨b, hb, hm⟩ := bind_some hm
      refine a_if (et_eq (m' := some ((decide (shape < 3)) && (decide (many < 12)))) (et_and (et_test (em_op vo_lt (em_varf (i := 4) fl_int rfl r_shape) em_int)) (et_test (em_op vo_lt (em_varf (i := 2) fl_int rfl r_many) em_int))) (by exact oAnd_tt)) hb k (fun eb F H e k => ?_) (fun eb F H e k => ?_)
      ·
        subst eb
        have hm := hT hm
        have r_held := (rLst (rTup K rInt)).up e r_held
        have r_base_ := (rLst rInt).up e r_base_
        have r_step := (rLst rInt).up e r_step
        have r_made := (rTup K rInt).up e r_made
        have eL15 := eL15.trans e
        have eJ16 := eJ16.trans e
        obtain ⟨⟨made_n, spring_here_n⟩, hx, hm⟩ := bind_some hm
        refine a_setS (cs' := (fun spring_here => [(p_spring_here, cLst rInt spring_here), (p_taken, cDic rBool taken), (p_found, cLst (rTup K rInt) found)])) (sm_tuple (cs := (fun spring_here => [(p_spring_here, cLst rInt spring_here), (p_taken, cDic rBool taken), (p_found, cLst (rTup K rInt) found)])) (s := spring_here) (SF.sm (cs := (fun spring_here => [(p_spring_here, cLst rInt spring_here), (p_taken, cDic rBool taken), (p_found, cLst (rTup K rInt) found)])) (s := spring_here) (sf_lc (K := K) (cs := (fun spring_here => [(p_spring_here, cLst rInt spring_here), (p_taken, cDic rBool taken), (p_found, cLst (rTup K rInt) found)])) (s := spring_here) (f := fun (k_ : Int) => fun spring_here => (s2 (fun a b s => sK s (addG a b)) (s2 (fun a b s => sK s (subG a b)) (s1 (fun a0 s => m_sip s a0) (sP (o2 subG (o2 mulG (some 2) (some wide)) (some 1)) spring_here)) fun spring_here => (sP (some wide) spring_here)) fun spring_here => (sP (some 1) spring_here))) (S := (fun d F1 σ2 => ∃ v_k_, σ2 = [some (.ref p_spring_here), some v_axes, some v_many, some v_held, some v_shape, some v_wide, some v_base_, some v_step, some (.ref p_taken), w_spot, some (.ref p_found), some v_count, some v_made, some v_k_] ∧ rInt.r F1 v_k_ d)) (ei_rng1 (em_varf (i := 1) fl_int rfl r_axes)) (gt_name (fun _ => rfl)) (fun d F1 σ2 hs => by obtain ⟨_, rfl, _⟩ := hs; rfl) (by intro k_ F1 σ2 spring_here e1 hs; obtain ⟨v_k_, rfl, r_k_⟩ := hs; have r_held := (rLst (rTup K rInt)).up e1 r_held; have r_base_ := (rLst rInt).up e1 r_base_; have r_step := (rLst rInt).up e1 r_step; have r_made := (rTup K rInt).up e1 r_made; exact (sm_op (cs := (fun spring_here => [(p_spring_here, cLst rInt spring_here), (p_taken, cDic rBool taken), (p_found, cLst (rTup K rInt) found)])) (s := spring_here) vo_add (sm_op (cs := (fun spring_here => [(p_spring_here, cLst rInt spring_here), (p_taken, cDic rBool taken), (p_found, cLst (rTup K rInt) found)])) (s := spring_here) vo_sub (sm_Mcall1 (cs := (fun spring_here => [(p_spring_here, cLst rInt spring_here), (p_taken, cDic rBool taken), (p_found, cLst (rTup K rInt) found)])) (s := spring_here) (cell := fun z => cLst rInt z) (i0 := 0) (j0 := 0) rfl (fun _ => rfl) (fun _ _ => rfl) (EM.sm (cs := (fun spring_here => [(p_spring_here, cLst rInt spring_here), (p_taken, cDic rBool taken), (p_found, cLst (rTup K rInt) found)])) (s := spring_here) (em_op vo_sub (em_op vo_mul em_int (em_varf (i := 5) fl_int rfl r_wide)) em_int))) fun spring_here => (EM.sm (cs := (fun spring_here => [(p_spring_here, cLst rInt spring_here), (p_taken, cDic rBool taken), (p_found, cLst (rTup K rInt) found)])) (s := spring_here) (em_varf (i := 5) fl_int rfl r_wide))) fun spring_here => (EM.sm (cs := (fun spring_here => [(p_spring_here, cLst rInt spring_here), (p_taken, cDic rBool taken), (p_found, cLst (rTup K rInt) found)])) (s := spring_here) em_int))) (fun _ _ => rfl)))) hx k fun v_made F H e k r_made => ?_
        obtain ⟨made, ez_⟩ : ∃ z, z = made_n := ⟨_, rfl⟩; subst ez_
        obtain ⟨spring_here, ez_⟩ : ∃ z, z = spring_here_n := ⟨_, rfl⟩; subst ez_
        have k : Cov c F [(p_spring_here, cLst rInt spring_here), (p_taken, cDic rBool taken), (p_found, cLst (rTup K rInt) found)] H := k
        have r_held := (rLst (rTup K rInt)).up e r_held
        have r_base_ := (rLst rInt).up e r_base_
        have r_step := (rLst rInt).up e r_step
        have eL15 := eL15.trans e
        have eJ16 := eJ16.trans e
        have hm := Option.some.inj hm
        cases hm
        exact ⟨F, v_made, rfl, eJ16, k, r_made⟩
      ·
        subst eb
        have hm := hF hm
        have r_held := (rLst (rTup K rInt)).up e r_held
        have r_base_ := (rLst rInt).up e r_base_
        have r_step := (rLst rInt).up e r_step
        have r_made := (rTup K rInt).up e r_made
        have eL15 := eL15.trans e
        have eJ16 := eJ16.trans e
        show Ends.nx _ _ _
        have hm := Option.some.inj hm
        cases hm
        exact ⟨F, v_made, rfl, eJ16, k, r_made⟩
    rintro σ1 H ⟨F, v_made, rfl, e, k, r_made⟩
    clear hj
    obtain ⟨made, ez_⟩ : ∃ z, z = made_j := ⟨_, rfl⟩; subst ez_
    obtain ⟨spring_here, ez_⟩ : ∃ z, z = spring_here_j := ⟨_, rfl⟩; subst ez_
    have r_held := (rLst (rTup K rInt)).up e r_held
    have r_base_ := (rLst rInt).up e r_base_
    have r_step := (rLst rInt).up e r_step
    have eL15 := eL15.trans e
    obtain ⟨b, hb, hm⟩ := bind_some hm
    refine a_if (et_B (em_dnotin (em_var (i := 12) rfl r_made) (ed_cell (i := 8) (j := 1) rfl rfl))) hb k (fun eb F H e k => ?_) (fun eb F H e k => ?_)
    ·
      subst eb
      have hm := hT hm
      have r_held := (rLst (rTup K rInt)).up e r_held
      have r_base_ := (rLst rInt).up e r_base_
      have r_step := (rLst rInt).up e r_step
      have r_made := (rTup K rInt).up e r_made
      have eL15 := eL15.trans e
      obtain ⟨val, hx, hm⟩ := bind_some hm
      obtain ⟨ix, hi, hm⟩ := bind_some hm
      obtain ⟨taken_n, hs, hm⟩ := bind_some hm
      refine q_dput (i := 8) (j := 1) rfl rfl em_bl (em_var (i := 12) rfl r_made) hx hi hs k fun F H e k => ?_
      obtain ⟨taken, ez_⟩ : ∃ z, z = taken_n := ⟨_, rfl⟩; subst ez_
      have r_held := (rLst (rTup K rInt)).up e r_held
      have r_base_ := (rLst rInt).up e r_base_
      have r_step := (rLst rInt).up e r_step
      have r_made := (rTup K rInt).up e r_made
      have eL15 := eL15.trans e
      have k : Cov c F [(p_spring_here, cLst rInt spring_here), (p_taken, cDic rBool taken), (p_found, cLst (rTup K rInt) found)] H := k
      obtain ⟨val, hx, hm⟩ := bind_some hm
      obtain ⟨found_n, hs, hm⟩ := bind_some hm
      obtain ⟨hs, hz⟩ := appG_some hs
      refine a_app (i := 10) (j := 2) rfl rfl (em_var (i := 12) rfl r_made) hx hz k fun F H e k => ?_
      rw [← hs] at k
      obtain ⟨found, ez_⟩ : ∃ z, z = found_n := ⟨_, rfl⟩; subst ez_
      have r_held := (rLst (rTup K rInt)).up e r_held
      have r_base_ := (rLst rInt).up e r_base_
      have r_step := (rLst rInt).up e r_step
      have r_made := (rTup K rInt).up e r_made
      have eL15 := eL15.trans e
      have k : Cov c F [(p_spring_here, cLst rInt spring_here), (p_taken, cDic rBool taken), (p_found, cLst (rTup K rInt) found)] H := k
      have hm := Option.some.inj hm
      subst hm
      exact ⟨F, _, _, rfl, eL15, k⟩
    ·
      subst eb
      have hm := hF hm
      have r_held := (rLst (rTup K rInt)).up e r_held
      have r_base_ := (rLst rInt).up e r_base_
      have r_step := (rLst rInt).up e r_step
      have r_made := (rTup K rInt).up e r_made
      have eL15 := eL15.trans e
      show Ends.nx _ _ _
      have hm := Option.some.inj hm
      subst hm
      exact ⟨F, _, _, rfl, eL15, k⟩
  obtain ⟨spring_here, taken, found⟩ := g1_
  rintro σ1 F H ⟨w_made, w_count, rfl, e1, k⟩
  have r_held := (rLst (rTup K rInt)).up (e.trans e1) r_held
  have r_base_ := (rLst rInt).up (e.trans e1) r_base_
  have r_step := (rLst rInt).up (e.trans e1) r_step
  refine nxh ?_
  obtain ⟨F, e, k, rz_⟩ := k.frzD 1 rfl n_taken
  have r_taken : ((rDic rBool)).r F (.ref p_taken) taken := rz_
  have r_held := (rLst (rTup K rInt)).up e r_held
  have r_base_ := (rLst rInt).up e r_base_
  have r_step := (rLst rInt).up e r_step
  have k : Cov c F [(p_spring_here, cLst rInt spring_here), (p_found, cLst (rTup K rInt) found)] H := k
  obtain ⟨F, e, k, rz_⟩ := k.frzL 1 rfl n_found
  have r_found : ((rLst (rTup K rInt))).r F (.ref p_found) found := rz_
  have r_held := (rLst (rTup K rInt)).up e r_held
  have r_base_ := (rLst rInt).up e r_base_
  have r_step := (rLst rInt).up e r_step
  have r_taken := (rDic rBool).up e r_taken
  have k : Cov c F [(p_spring_here, cLst rInt spring_here)] H := k
  obtain ⟨rv, hv, hm⟩ := bind_some hm
  have hm := Option.some.inj hm
  cases hm
  exact a_ret (em_var (i := 10) rfl r_found) hv k fun v F H e k r => hQ v F H (k.keepN 1) r
abbrev s_parts : Stmt := topS 50
abbrev N_parts : List PySem.Str := ["_law_spring_here", "_law_axes", "_law_most", "_law_lit"]
theorem sc_parts : FnScope N_parts ["_law_spring_here", "_law_axes", "_law_most"] (defScope s_parts) := ⟨rfl, rfl, rfl, by decide +kernel, rfl, by decide +kernel, by decide +kernel⟩
def sp_parts (K : PySem.W.Frag) : Sp := (MPsp2 (fun z => cLst rInt z) rInt rInt (rP2 K (rLst (rTup K rInt)) (rLst (rTup K rInt))) m_parts)
theorem ok_parts {P : Program} {w : World} {K : PySem.W.Frag} {mg : PySem.Str → Option Value} {base : Heap} (T : Txt mg) (L : ClsF K mg) (E_ : ErrF K mg erL) (C_sip : Cal P w K mg base 1 "_law_sip" ["_law_spring_here", "_law_many"] (sp_sip K) (fun _ => True)) (C_spots : Cal P w K mg base 3 "_law_spots" ["_law_spring_here", "_law_axes", "_law_many", "_law_held"] (sp_spots K) (fun _ => True)) {f : Addr} {fd : FuncData} (Fn : FnP K "_law_parts" s_parts f fd) : FnOk P w K mg base CX0 4 f fd ["_law_spring_here", "_law_axes", "_law_most"] (sp_parts K) := by
  obtain ⟨f_sip, fd_sip, G_sip, g_sip, kp_sip, b_sip, _⟩ := C_sip.ex
  obtain ⟨f_spots, fd_spots, G_spots, g_spots, kp_spots, b_spots, _⟩ := C_spots.ex
  refine Fn.ok sc_parts (fun vs H Q E h => MPsp2_len h) (fun cdv A outer s H vs Q E hr h => ?_)
  obtain ⟨F, p_spring_here, v_axes, v_most, spring_here, axes, most, res, s_out, rfl, k, r_axes, r_most, hm, hQ⟩ := h
  generalize hc : Act.mk H F [p_spring_here] = c at k hQ
  unfold m_parts at hm
  refine ⟨_, PSs.nox (pss_cons (ps_set (i := 3) sc_parts.nd rfl (Or.inl rfl) (pe_call G_spots (hr.mono (by decide)) (by rfl) g_spots kp_spots b_spots .nil pass0 (pa_cons (pv 0) (pa_cons (pv 1) (pa_cons (pe_call G_sip (hr.mono (by decide)) (by rfl) g_sip kp_sip b_sip .nil pass0 (pa_cons (pv 0) (pa_cons (pe_op op_add (pv 2) pe_int) pa_nil))) (pa_cons (pe_lst pa_nil) pa_nil)))))) (pss_one (ps_ret (pe_tup (pa_cons (pv 3) (pa_cons (pe_call G_spots (hr.mono (by decide)) (by rfl) g_spots kp_spots b_spots .nil pass0 (pa_cons (pv 0) (pa_cons (pv 1) (pa_cons (pe_call G_sip (hr.mono (by decide)) (by rfl) g_sip kp_sip b_sip .nil pass0 (pa_cons (pv 0) (pa_cons (pe_op op_add (pv 2) pe_int) pa_nil))) (pa_cons (pv 3) pa_nil))))) pa_nil)))))), ?_⟩
  show (_ : TS) _ [some (.ref p_spring_here), some v_axes, some v_most, none] _
  obtain ⟨⟨lit_n, spring_here_n⟩, hx, hm⟩ := bind_some hm
  refine q_setS (cs' := (fun spring_here => [(p_spring_here, cLst rInt spring_here)])) (sm_Mcall3 (cs := (fun spring_here => [(p_spring_here, cLst rInt spring_here)])) (s := spring_here) (cell := fun z => cLst rInt z) (i0 := 0) (j0 := 0) rfl (fun _ => rfl) (fun _ _ => rfl) (EM.sm (cs := (fun spring_here => [(p_spring_here, cLst rInt spring_here)])) (s := spring_here) (em_varf (i := 1) fl_int rfl r_axes)) (fun spring_here => (sm_Mcall1 (cs := (fun spring_here => [(p_spring_here, cLst rInt spring_here)])) (s := spring_here) (cell := fun z => cLst rInt z) (i0 := 0) (j0 := 0) rfl (fun _ => rfl) (fun _ _ => rfl) (EM.sm (cs := (fun spring_here => [(p_spring_here, cLst rInt spring_here)])) (s := spring_here) (em_op vo_add (em_varf (i := 2) fl_int rfl r_most) em_int)))) (fun spring_here => (EM.sm (cs := (fun spring_here => [(p_spring_here, cLst rInt spring_here)])) (s := spring_here) ((ef_lst (ra := (rTup K rInt)) ea_nil)).em))) hx k fun v_lit F H e k r_lit => ?_
  obtain ⟨lit, ez_⟩ : ∃ z, z = lit_n := ⟨_, rfl⟩; subst ez_
  obtain ⟨spring_here, ez_⟩ : ∃ z, z = spring_here_n := ⟨_, rfl⟩; subst ez_
  have k : Cov c F [(p_spring_here, cLst rInt spring_here)] H := k
  show (_ : TS) _ [some (.ref p_spring_here), some v_axes, some v_most, some v_lit] _
  have hv := hm
  have hm : True := trivial
  cases hm
  exact a_retS (cs' := (fun spring_here => [(p_spring_here, cLst rInt spring_here)])) (sm_tup2 (K := K) (cs := (fun spring_here => [(p_spring_here, cLst rInt spring_here)])) (s := spring_here) (EM.sm (cs := (fun spring_here => [(p_spring_here, cLst rInt spring_here)])) (s := spring_here) (em_var (i := 3) rfl r_lit)) fun spring_here => (sm_Mcall3 (cs := (fun spring_here => [(p_spring_here, cLst rInt spring_here)])) (s := spring_here) (cell := fun z => cLst rInt z) (i0 := 0) (j0 := 0) rfl (fun _ => rfl) (fun _ _ => rfl) (EM.sm (cs := (fun spring_here => [(p_spring_here, cLst rInt spring_here)])) (s := spring_here) (em_varf (i := 1) fl_int rfl r_axes)) (fun spring_here => (sm_Mcall1 (cs := (fun spring_here => [(p_spring_here, cLst rInt spring_here)])) (s := spring_here) (cell := fun z => cLst rInt z) (i0 := 0) (j0 := 0) rfl (fun _ => rfl) (fun _ _ => rfl) (EM.sm (cs := (fun spring_here => [(p_spring_here, cLst rInt spring_here)])) (s := spring_here) (em_op vo_add (em_varf (i := 2) fl_int rfl r_most) em_int)))) (fun spring_here => (EM.sm (cs := (fun spring_here => [(p_spring_here, cLst rInt spring_here)])) (s := spring_here) (em_var (i := 3) rfl r_lit))))) hv k fun v F H e k r => hQ v F H (k.keepN 1) r
abbrev s_matrix : Stmt := topS 52
abbrev N_matrix : List PySem.Str := ["_law_spring_here", "_law_axes", "_law_grid", "_law_step", "_law_into", "_law_out", "_law_times", "_law_made", "_law_k", "_law_j", "_law_value"]
theorem sc_matrix : FnScope N_matrix ["_law_spring_here", "_law_axes"] (defScope s_matrix) := ⟨rfl, rfl, rfl, by decide +kernel, rfl, by decide +kernel, by decide +kernel⟩
def sp_matrix (K : PySem.W.Frag) : Sp := (MPsp1 (fun z => cLst rInt z) rInt (rLst (rLst rInt)) m_matrix)
theorem ok_matrix {P : Program} {w : World} {K : PySem.W.Frag} {mg : PySem.Str → Option Value} {base : Heap} (T : Txt mg) (L : ClsF K mg) (E_ : ErrF K mg erL) (C_sip : Cal P w K mg base 1 "_law_sip" ["_law_spring_here", "_law_many"] (sp_sip K) (fun _ => True)) {f : Addr} {fd : FuncData} (Fn : FnP K "_law_matrix" s_matrix f fd) : FnOk P w K mg base CX0 2 f fd ["_law_spring_here", "_law_axes"] (sp_matrix K) := by
  obtain ⟨f_sip, fd_sip, G_sip, g_sip, kp_sip, b_sip, _⟩ := C_sip.ex
  refine Fn.ok sc_matrix (fun vs H Q E h => MPsp1_len h) (fun cdv A outer s H vs Q E hr h => ?_)
  obtain ⟨F, p_spring_here, v_axes, spring_here, axes, res, s_out, rfl, k, r_axes, hm, hQ⟩ := h
  generalize hc : Act.mk H F [p_spring_here] = c at k hQ
  unfold m_matrix at hm
  refine ⟨_, PSs.nox (pss_cons (ps_set (i := 2) sc_matrix.nd rfl (Or.inr rfl) (pe_lc (own := [("_law_k", 8)]) (g := (gName 8)) (tt := tYes) rfl sc_matrix.nd (pi_range1 (by rfl) T.b_range (pa_cons (pv 1) pa_nil)) (blkOk_by (N := N_matrix) (sc := defScope s_matrix) (by decide +kernel)) (fun _ _ _ _ _ => (pg_name (i := 8) sc_matrix.nd rfl (Or.inr rfl))) (fun _ _ _ _ _ => pts_nil) (fun _ _ _ _ _ => (pe_lc (own := [("_law_j", 9)]) (g := (gName 9)) (tt := tYes) rfl sc_matrix.nd (pi_range1 (by rfl) T.b_range (pa_cons (pv 1) pa_nil)) (blkOk_by (by kernel_rfl)) (fun _ _ _ _ _ => (pg_name (i := 9) sc_matrix.nd rfl (Or.inl rfl))) (fun _ _ _ _ _ => pts_nil) (fun _ _ _ _ _ => (pe_callTy call_int1 (by rfl) T.b_int (by decide +kernel) (pa_cons (pe_cmpR op_eq (pv 8) (pv 9) (nomark _)) pa_nil))))))) (pss_cons (ps_for PassesOwn.never rfl (pi_range1 (by rfl) T.b_range (pa_cons (pe_call G_sip (hr.mono (by decide)) (by rfl) g_sip kp_sip b_sip .nil pass0 (pa_cons (pv 0) (pa_cons pe_int pa_nil))) pa_nil)) (pg_name (i := 3) sc_matrix.nd rfl (Or.inl rfl)) (pss_cons (ps_set (i := 4) sc_matrix.nd rfl (Or.inr rfl) (pe_call G_sip (hr.mono (by decide)) (by rfl) g_sip kp_sip b_sip .nil pass0 (pa_cons (pv 0) (pa_cons (pv 1) pa_nil)))) (pss_cons (ps_set (i := 5) sc_matrix.nd rfl (Or.inr rfl) (pe_op op_mod (pe_op op_add (pe_op op_add (pv 4) pe_int) (pe_call G_sip (hr.mono (by decide)) (by rfl) g_sip kp_sip b_sip .nil pass0 (pa_cons (pv 0) (pa_cons (pe_op op_sub (pv 1) pe_int) pa_nil)))) (pv 1))) (pss_cons (ps_set (i := 6) sc_matrix.nd rfl (Or.inr rfl) (pe_ix (ix_listK K rfl) (pe_lst (pa_cons (pe_op op_sub (pe_call G_sip (hr.mono (by decide)) (by rfl) g_sip kp_sip b_sip .nil pass0 (pa_cons (pv 0) (pa_cons pe_int pa_nil))) pe_int) (pa_cons (pe_op op_sub (pe_call G_sip (hr.mono (by decide)) (by rfl) g_sip kp_sip b_sip .nil pass0 (pa_cons (pv 0) (pa_cons pe_int pa_nil))) pe_int) pa_nil))) (pe_call G_sip (hr.mono (by decide)) (by rfl) g_sip kp_sip b_sip .nil pass0 (pa_cons (pv 0) (pa_cons pe_int pa_nil))) (fun _ _ => rfl))) (pss_cons (ps_setLc (i := 7) (own := [("_law_k", 8)]) (g := (gName 8)) (tt := tYes) rfl sc_matrix.nd rfl rfl (sw_true rfl rfl rfl (by decide +kernel)) (pi_range1 (by rfl) T.b_range (pa_cons (pv 1) pa_nil)) (blkOk_by (N := N_matrix) (sc := defScope s_matrix) (by decide +kernel)) (fun _ _ _ _ _ => (pg_name (i := 8) sc_matrix.nd rfl (Or.inl rfl))) (fun _ _ _ _ _ => pts_nil) (fun _ _ _ _ _ => (pe_op op_add (pe_ix (ix_listK K rfl) (pe_ix (ix_listK K rfl) (pv 2) (pv 4) (fun _ _ => rfl)) (pv 8) (fun _ _ => rfl)) (pe_op op_mulI (pv 6) (pe_ix (ix_listK K rfl) (pe_ix (ix_listK K rfl) (pv 2) (pv 5) (fun _ _ => rfl)) (pv 8) (fun _ _ => rfl)))))) (Evl.pss_cut (ps_if (pt_cmpR (op_eqDK K rfl hr.units) (pe_lc (own := [("_law_value", 10)]) (g := (gName 10)) (tt := _) rfl sc_matrix.nd (pi_listK K rfl (pv 7)) (blkOk_by (N := N_matrix) (sc := defScope s_matrix) (by decide +kernel)) (fun _ _ _ _ _ => (pg_name (i := 10) sc_matrix.nd rfl (Or.inl rfl))) (fun _ _ _ _ _ => (pts_one (pt_cmpR op_gt (pe_callB (call_max2 rfl) (by rfl) T.b_max (by decide +kernel) (pa_cons (pv 10) (pa_cons (pe_op op_sub pe_int (pv 10)) pa_nil))) pe_int (nomark _)))) (fun _ _ _ _ _ => (pv 10))) (pe_lst pa_nil) (nomark _)) (pss_one (ps_asg (pv 7) (pg_sub (pv 2) (pv 4) set_list))) pss_nil) (Evl.pss_cut (ps_if (pt_cmpR op_eq (pe_call G_sip (hr.mono (by decide)) (by rfl) g_sip kp_sip b_sip .nil pass0 (pa_cons (pv 0) (pa_cons pe_int pa_nil))) pe_int (nomark _)) (pss_one (ps_asg (pe_tup (pa_cons (pe_ix (ix_listK K rfl) (pv 2) (pv 5) (fun _ _ => rfl)) (pa_cons (pe_ix (ix_listK K rfl) (pv 2) (pv 4) (fun _ _ => rfl)) pa_nil))) (pg_tup (by rfl) (pgs_cons (pg_sub (pv 2) (pv 4) set_list) (pgs_cons (pg_sub (pv 2) (pv 5) set_list) pgs_nil))))) pss_nil) (pss_one (ps_if (pt_cmpR op_eq (pe_call G_sip (hr.mono (by decide)) (by rfl) g_sip kp_sip b_sip .nil pass0 (pa_cons (pv 0) (pa_cons pe_int pa_nil))) pe_int (nomark _)) (pss_one (ps_asg (pe_lc (own := [("_law_value", 10)]) (g := (gName 10)) (tt := tYes) rfl sc_matrix.nd (pi_listK K rfl (pe_ix (ix_listK K rfl) (pv 2) (pv 4) (fun _ _ => rfl))) (blkOk_by (N := N_matrix) (sc := defScope s_matrix) (by decide +kernel)) (fun _ _ _ _ _ => (pg_name (i := 10) sc_matrix.nd rfl (Or.inl rfl))) (fun _ _ _ _ _ => pts_nil) (fun _ _ _ _ _ => (pe_op op_sub pe_int (pv 10)))) (pg_sub (pv 2) (pv 4) set_list))) pss_nil))))))))) (pss_one (ps_ret (pv 2))))), ?_⟩
  show (_ : TS) _ [some (.ref p_spring_here), some v_axes, none, none, none, none, none, none, none, none, none] _
  obtain ⟨grid_n, hx, hm⟩ := bind_some hm
  refine q_setF (ef_lc (K := K) (t := yes) (f := fun (k_ : Int) => (o1 (oLc yes (fun (j : Int) => (some (Mw.b2i (decide (k_ = j)))))) (o1 rngG (some axes)))) (S := (fun d F1 σ2 => ∃ v_k_, σ2 = [some (.ref p_spring_here), some v_axes, none, none, none, none, none, none, some v_k_, none, none] ∧ rInt.r F1 v_k_ d)) (ei_rng1 (em_varf (i := 1) fl_int rfl r_axes)) (gt_name (fun _ => rfl)) (fun d F1 σ2 hs => by obtain ⟨_, rfl, _⟩ := hs; rfl) (fun _ _ _ _ _ => et_yes) (by intro k_ F1 σ2 e1 hs; obtain ⟨v_k_, rfl, r_k_⟩ := hs; exact ((ef_lc (K := K) (t := yes) (f := fun (j : Int) => (some (Mw.b2i (decide (k_ = j))))) (S := (fun d F1 σ2 => ∃ v_j, σ2 = [some (.ref p_spring_here), some v_axes, none, none, none, none, none, none, some v_k_, some v_j, none] ∧ rInt.r F1 v_j d)) (ei_rng1 (em_varf (i := 1) fl_int rfl r_axes)) (gt_name (fun _ => rfl)) (fun d F1 σ2 hs => by obtain ⟨_, rfl, _⟩ := hs; rfl) (fun _ _ _ _ _ => et_yes) (by intro j F1 σ2 e1 hs; obtain ⟨v_j, rfl, r_j⟩ := hs; exact (em_cb vc_intB (em_op vo_eqI (em_varf (i := 8) fl_int rfl r_k_) (em_varf (i := 9) fl_int rfl r_j)))))).em)) hx k fun p_grid F H e k n_grid => ?_
  obtain ⟨grid, ez_⟩ : ∃ z, z = grid_n := ⟨_, rfl⟩; subst ez_
  show (_ : TS) _ [some (.ref p_spring_here), some v_axes, some (.ref p_grid), none, none, none, none, none, none, none, none] _
  obtain ⟨⟨l_, spring_here_n⟩, hl, hm⟩ := bind_some hm
  obtain ⟨g1_, hf, hm⟩ := bind_some hm
  refine sq ?_
  refine a_forS (cs' := (fun spring_here => [(p_spring_here, cLst rInt spring_here), (p_grid, cLst (rLst rInt) grid)])) (si_rng1 (cs := (fun spring_here => [(p_spring_here, cLst rInt spring_here), (p_grid, cLst (rLst rInt) grid)])) (s := spring_here) (sm_Mcall1 (cs := (fun spring_here => [(p_spring_here, cLst rInt spring_here), (p_grid, cLst (rLst rInt) grid)])) (s := spring_here) (cell := fun z => cLst rInt z) (i0 := 0) (j0 := 0) rfl (fun _ => rfl) (fun _ _ => rfl) (EM.sm (cs := (fun spring_here => [(p_spring_here, cLst rInt spring_here), (p_grid, cLst (rLst rInt) grid)])) (s := spring_here) em_int))) hl k hf fun F H e k => ⟨fun g σ1 F1 H1 => ∃ w_into w_out w_times w_made w_step, σ1 = [some (.ref p_spring_here), some v_axes, some (.ref p_grid), w_step, w_into, w_out, w_times, w_made, none, none, none] ∧ Ex F F1 ∧ Cov c F1 [(p_spring_here, cLst rInt g.1), (p_grid, cLst (rLst rInt) g.2)] H1, fun g => [(p_spring_here, cLst rInt g.1), (p_grid, cLst (rLst rInt) g.2)], ?_, ?_, ?_, ?_⟩
  · exact ⟨_, _, _, _, _, rfl, Evl.Ex.refl _, k⟩
  · rintro g σ1 F1 H1 ⟨_, _, _, _, _, rfl, e1, k1⟩
    exact ⟨e1, k1⟩
  · rintro d v ⟨spring_here, grid⟩ g2 σ1 F1 H1 F H ⟨w_into, w_out, w_times, w_made, w_step, rfl, eL17, _⟩ e1 k rd hm
    have eL17 := eL17.trans e1
    obtain ⟨step, ez_⟩ : ∃ z, z = d := ⟨_, rfl⟩; subst ez_
    obtain ⟨v_step, ez_⟩ : ∃ z, z = v := ⟨_, rfl⟩; subst ez_
    have r_step := rd
    refine gn (σ1 := [some (.ref p_spring_here), some v_axes, some (.ref p_grid), some v_step, w_into, w_out, w_times, w_made, none, none, none]) rfl ?_
    obtain ⟨⟨into_n, spring_here_n⟩, hx, hm⟩ := bind_some hm
    refine q_setS (cs' := (fun spring_here => [(p_spring_here, cLst rInt spring_here), (p_grid, cLst (rLst rInt) grid)])) (sm_Mcall1 (cs := (fun spring_here => [(p_spring_here, cLst rInt spring_here), (p_grid, cLst (rLst rInt) grid)])) (s := spring_here) (cell := fun z => cLst rInt z) (i0 := 0) (j0 := 0) rfl (fun _ => rfl) (fun _ _ => rfl) (EM.sm (cs := (fun spring_here => [(p_spring_here, cLst rInt spring_here), (p_grid, cLst (rLst rInt) grid)])) (s := spring_here) (em_varf (i := 1) fl_int rfl r_axes))) hx k fun v_into F H e k r_into => ?_
    obtain ⟨into, ez_⟩ : ∃ z, z = into_n := ⟨_, rfl⟩; subst ez_
    obtain ⟨spring_here, ez_⟩ : ∃ z, z = spring_here_n := ⟨_, rfl⟩; subst ez_
    have k : Cov c F [(p_spring_here, cLst rInt spring_here), (p_grid, cLst (rLst rInt) grid)] H := k
    show (_ : TS) _ [some (.ref p_spring_here), some v_axes, some (.ref p_grid), some v_step, some v_into, w_out, w_times, w_made, none, none, none] _
    have eL17 := eL17.trans e
    obtain ⟨⟨out_n, spring_here_n⟩, hx, hm⟩ := bind_some hm
    refine q_setS (cs' := (fun spring_here => [(p_spring_here, cLst rInt spring_here), (p_grid, cLst (rLst rInt) grid)])) (sm_op (cs := (fun spring_here => [(p_spring_here, cLst rInt spring_here), (p_grid, cLst (rLst rInt) grid)])) (s := spring_here) vo_mod (sm_op (cs := (fun spring_here => [(p_spring_here, cLst rInt spring_here), (p_grid, cLst (rLst rInt) grid)])) (s := spring_here) vo_add (EM.sm (cs := (fun spring_here => [(p_spring_here, cLst rInt spring_here), (p_grid, cLst (rLst rInt) grid)])) (s := spring_here) (em_op vo_add (em_varf (i := 4) fl_int rfl r_into) em_int)) fun spring_here => (sm_Mcall1 (cs := (fun spring_here => [(p_spring_here, cLst rInt spring_here), (p_grid, cLst (rLst rInt) grid)])) (s := spring_here) (cell := fun z => cLst rInt z) (i0 := 0) (j0 := 0) rfl (fun _ => rfl) (fun _ _ => rfl) (EM.sm (cs := (fun spring_here => [(p_spring_here, cLst rInt spring_here), (p_grid, cLst (rLst rInt) grid)])) (s := spring_here) (em_op vo_sub (em_varf (i := 1) fl_int rfl r_axes) em_int)))) fun spring_here => (EM.sm (cs := (fun spring_here => [(p_spring_here, cLst rInt spring_here), (p_grid, cLst (rLst rInt) grid)])) (s := spring_here) (em_varf (i := 1) fl_int rfl r_axes))) hx k fun v_out F H e k r_out => ?_
    obtain ⟨out, ez_⟩ : ∃ z, z = out_n := ⟨_, rfl⟩; subst ez_
    obtain ⟨spring_here, ez_⟩ : ∃ z, z = spring_here_n := ⟨_, rfl⟩; subst ez_
    have k : Cov c F [(p_spring_here, cLst rInt spring_here), (p_grid, cLst (rLst rInt) grid)] H := k
    show (_ : TS) _ [some (.ref p_spring_here), some v_axes, some (.ref p_grid), some v_step, some v_into, some v_out, w_times, w_made, none, none, none] _
    have eL17 := eL17.trans e
    obtain ⟨⟨times_n, spring_here_n⟩, hx, hm⟩ := bind_some hm
    refine q_setS (cs' := (fun spring_here => [(p_spring_here, cLst rInt spring_here), (p_grid, cLst (rLst rInt) grid)])) (sm_ix (cs := (fun spring_here => [(p_spring_here, cLst rInt spring_here), (p_grid, cLst (rLst rInt) grid)])) (s := spring_here) (SF.sm (cs := (fun spring_here => [(p_spring_here, cLst rInt spring_here), (p_grid, cLst (rLst rInt) grid)])) (s := spring_here) (sf_lst (cs := (fun spring_here => [(p_spring_here, cLst rInt spring_here), (p_grid, cLst (rLst rInt) grid)])) (s := spring_here) (sa_cons (cs := (fun spring_here => [(p_spring_here, cLst rInt spring_here), (p_grid, cLst (rLst rInt) grid)])) (s := spring_here) (sm_op (cs := (fun spring_here => [(p_spring_here, cLst rInt spring_here), (p_grid, cLst (rLst rInt) grid)])) (s := spring_here) vo_sub (sm_Mcall1 (cs := (fun spring_here => [(p_spring_here, cLst rInt spring_here), (p_grid, cLst (rLst rInt) grid)])) (s := spring_here) (cell := fun z => cLst rInt z) (i0 := 0) (j0 := 0) rfl (fun _ => rfl) (fun _ _ => rfl) (EM.sm (cs := (fun spring_here => [(p_spring_here, cLst rInt spring_here), (p_grid, cLst (rLst rInt) grid)])) (s := spring_here) em_int)) fun spring_here => (EM.sm (cs := (fun spring_here => [(p_spring_here, cLst rInt spring_here), (p_grid, cLst (rLst rInt) grid)])) (s := spring_here) em_int)) fun spring_here => (sa_cons (cs := (fun spring_here => [(p_spring_here, cLst rInt spring_here), (p_grid, cLst (rLst rInt) grid)])) (s := spring_here) (sm_op (cs := (fun spring_here => [(p_spring_here, cLst rInt spring_here), (p_grid, cLst (rLst rInt) grid)])) (s := spring_here) vo_sub (sm_Mcall1 (cs := (fun spring_here => [(p_spring_here, cLst rInt spring_here), (p_grid, cLst (rLst rInt) grid)])) (s := spring_here) (cell := fun z => cLst rInt z) (i0 := 0) (j0 := 0) rfl (fun _ => rfl) (fun _ _ => rfl) (EM.sm (cs := (fun spring_here => [(p_spring_here, cLst rInt spring_here), (p_grid, cLst (rLst rInt) grid)])) (s := spring_here) em_int)) fun spring_here => (EM.sm (cs := (fun spring_here => [(p_spring_here, cLst rInt spring_here), (p_grid, cLst (rLst rInt) grid)])) (s := spring_here) em_int)) fun spring_here => (sa_nil (ra := rInt) (cs := (fun spring_here => [(p_spring_here, cLst rInt spring_here), (p_grid, cLst (rLst rInt) grid)])) (s := spring_here)))))) fun spring_here => (sm_Mcall1 (cs := (fun spring_here => [(p_spring_here, cLst rInt spring_here), (p_grid, cLst (rLst rInt) grid)])) (s := spring_here) (cell := fun z => cLst rInt z) (i0 := 0) (j0 := 0) rfl (fun _ => rfl) (fun _ _ => rfl) (EM.sm (cs := (fun spring_here => [(p_spring_here, cLst rInt spring_here), (p_grid, cLst (rLst rInt) grid)])) (s := spring_here) em_int))) hx k fun v_times F H e k r_times => ?_
    obtain ⟨times, ez_⟩ : ∃ z, z = times_n := ⟨_, rfl⟩; subst ez_
    obtain ⟨spring_here, ez_⟩ : ∃ z, z = spring_here_n := ⟨_, rfl⟩; subst ez_
    have k : Cov c F [(p_spring_here, cLst rInt spring_here), (p_grid, cLst (rLst rInt) grid)] H := k
    show (_ : TS) _ [some (.ref p_spring_here), some v_axes, some (.ref p_grid), some v_step, some v_into, some v_out, some v_times, w_made, none, none, none] _
    have eL17 := eL17.trans e
    obtain ⟨made_n, hx, hm⟩ := bind_some hm
    refine q_set ((ef_lc (K := K) (t := yes) (f := fun (k_ : Int) => (o2 addG (o2 ixG (o2 ixG (some grid) (some into)) (some k_)) (o2 mulG (some times) (o2 ixG (o2 ixG (some grid) (some out)) (some k_))))) (S := (fun d F1 σ2 => ∃ v_k_, σ2 = [some (.ref p_spring_here), some v_axes, some (.ref p_grid), some v_step, some v_into, some v_out, some v_times, w_made, some v_k_, none, none] ∧ rInt.r F1 v_k_ d)) (ei_rng1 (em_varf (i := 1) fl_int rfl r_axes)) (gt_name (fun _ => rfl)) (fun d F1 σ2 hs => by obtain ⟨_, rfl, _⟩ := hs; rfl) (fun _ _ _ _ _ => et_yes) (by intro k_ F1 σ2 e1 hs; obtain ⟨v_k_, rfl, r_k_⟩ := hs; exact (em_op vo_add (el_ix ((el_ix (el_cell (i := 2) (j := 1) rfl rfl) (em_varf (i := 4) fl_int rfl r_into))).el (em_varf (i := 8) fl_int rfl r_k_)) (em_op vo_mul (em_varf (i := 6) fl_int rfl r_times) (el_ix ((el_ix (el_cell (i := 2) (j := 1) rfl rfl) (em_varf (i := 5) fl_int rfl r_out))).el (em_varf (i := 8) fl_int rfl r_k_))))))).em hx k fun v_made F H e k r_made => ?_
    obtain ⟨made, ez_⟩ : ∃ z, z = made_n := ⟨_, rfl⟩; subst ez_
    show (_ : TS) _ [some (.ref p_spring_here), some v_axes, some (.ref p_grid), some v_step, some v_into, some v_out, some v_times, some v_made, none, none, none] _
    have eL17 := eL17.trans e
    obtain ⟨grid_j, hj, hm⟩ := bind_some hm
    refine q_cut (Mid := fun σ1 H1 => ∃ F1, σ1 = [some (.ref p_spring_here), some v_axes, some (.ref p_grid), some v_step, some v_into, some v_out, some v_times, some v_made, none, none, none] ∧ Ex F F1 ∧ Cov c F1 [(p_spring_here, cLst rInt spring_here), (p_grid, cLst (rLst rInt) grid_j)] H1) ?_ ?_
    ·
      have hm := hj
      have eJ18 : Ex F F := Evl.Ex.refl F
      obtain ⟨b, hb, hm⟩ := bind_some hm
      refine a_if (b := b) (et_test (em_op (vo_eqD (dq_lst dq_int) (Nat.le_of_ble_eq_true rfl)) ((ef_lc (K := K) (t := (fun (value : Int) => (o2 gtG (o2 maxG (some value) (some (0 - value))) (some 333)))) (f := fun (value : Int) => (some value)) (S := (fun d F1 σ2 => ∃ v_value, σ2 = [some (.ref p_spring_here), some v_axes, some (.ref p_grid), some v_step, some v_into, some v_out, some v_times, some v_made, none, none, some v_value] ∧ rInt.r F1 v_value d)) (ei_list (em_var (i := 7) rfl r_made)) (gt_name (fun _ => rfl)) (fun d F1 σ2 hs => by obtain ⟨_, rfl, _⟩ := hs; rfl) (by intro value F1 σ2 e1 hs; obtain ⟨v_value, rfl, r_value⟩ := hs; have r_made := (rLst rInt).up e1 r_made; exact (et_test (em_op vo_gt (em_cb2 vc_max (em_varf (i := 10) fl_int rfl r_value) (em_op vo_sub em_int (em_varf (i := 10) fl_int rfl r_value))) em_int))) (by intro value F1 σ2 e1 hs; obtain ⟨v_value, rfl, r_value⟩ := hs; have r_made := (rLst rInt).up e1 r_made; exact (em_varf (i := 10) fl_int rfl r_value)))).em ((ef_lst (ra := rInt) ea_nil)).em)) ?_ k (fun eb F H e k => ?_) (fun eb F H e k => ?_)
      · exact hb
      ·
        subst eb
        have hm := hT hm
        have r_made := (rLst rInt).up e r_made
        have eL17 := eL17.trans e
        have eJ18 := eJ18.trans e
        obtain ⟨val, hx, hm⟩ := bind_some hm
        obtain ⟨ix, hi, hm⟩ := bind_some hm
        obtain ⟨grid_n, hs, hm⟩ := bind_some hm
        refine a_sub (i := 2) (j := 1) rfl rfl (em_var (i := 7) rfl r_made) (em_varf (i := 4) fl_int rfl r_into) hx hi hs k fun F H e k => ?_
        obtain ⟨grid, ez_⟩ : ∃ z, z = grid_n := ⟨_, rfl⟩; subst ez_
        have r_made := (rLst rInt).up e r_made
        have eL17 := eL17.trans e
        have eJ18 := eJ18.trans e
        have k : Cov c F [(p_spring_here, cLst rInt spring_here), (p_grid, cLst (rLst rInt) grid)] H := k
        have hm := Option.some.inj hm
        cases hm
        exact ⟨F, rfl, eJ18, k⟩
      ·
        subst eb
        have hm := hF hm
        have r_made := (rLst rInt).up e r_made
        have eL17 := eL17.trans e
        have eJ18 := eJ18.trans e
        show Ends.nx _ _ _
        have hm := Option.some.inj hm
        cases hm
        exact ⟨F, rfl, eJ18, k⟩
    rintro σ1 H ⟨F, rfl, e, k⟩
    clear hj
    obtain ⟨grid, ez_⟩ : ∃ z, z = grid_j := ⟨_, rfl⟩; subst ez_
    have r_made := (rLst rInt).up e r_made
    have eL17 := eL17.trans e
    obtain ⟨⟨grid_j, spring_here_j⟩, hj, hm⟩ := bind_some hm
    refine q_cut (Mid := fun σ1 H1 => ∃ F1, σ1 = [some (.ref p_spring_here), some v_axes, some (.ref p_grid), some v_step, some v_into, some v_out, some v_times, some v_made, none, none, none] ∧ Ex F F1 ∧ Cov c F1 [(p_spring_here, cLst rInt spring_here_j), (p_grid, cLst (rLst rInt) grid_j)] H1) ?_ ?_
    ·
      have hm := hj
      have eJ19 : Ex F F := Evl.Ex.refl F
      obtain ⟨⟨b, spring_here_n⟩, hb, hm⟩ := bind_some hm
      refine a_ifS (cs' := (fun spring_here => [(p_spring_here, cLst rInt spring_here), (p_grid, cLst (rLst rInt) grid)])) (st_test (cs := (fun spring_here => [(p_spring_here, cLst rInt spring_here), (p_grid, cLst (rLst rInt) grid)])) (s := spring_here) (sm_op (cs := (fun spring_here => [(p_spring_here, cLst rInt spring_here), (p_grid, cLst (rLst rInt) grid)])) (s := spring_here) vo_eqI (sm_Mcall1 (cs := (fun spring_here => [(p_spring_here, cLst rInt spring_here), (p_grid, cLst (rLst rInt) grid)])) (s := spring_here) (cell := fun z => cLst rInt z) (i0 := 0) (j0 := 0) rfl (fun _ => rfl) (fun _ _ => rfl) (EM.sm (cs := (fun spring_here => [(p_spring_here, cLst rInt spring_here), (p_grid, cLst (rLst rInt) grid)])) (s := spring_here) em_int)) fun spring_here => (EM.sm (cs := (fun spring_here => [(p_spring_here, cLst rInt spring_here), (p_grid, cLst (rLst rInt) grid)])) (s := spring_here) em_int))) hb k (fun eb F H e k => ?_) (fun eb F H e k => ?_)
      ·
        subst eb
        dsimp only at hm
        have hm := hT hm
        obtain ⟨spring_here, ez_⟩ : ∃ z, z = spring_here_n := ⟨_, rfl⟩; subst ez_
        have k : Cov c F [(p_spring_here, cLst rInt spring_here), (p_grid, cLst (rLst rInt) grid)] H := k
        have r_made := (rLst rInt).up e r_made
        have eL17 := eL17.trans e
        have eJ19 := eJ19.trans e
        obtain ⟨val, hx, hm⟩ := bind_some hm
        obtain ⟨grid_m, hs1, hm⟩ := bind_some hm
        obtain ⟨grid_n, hs2, hm⟩ := bind_some hm
        refine a_swap (i := 2) (j := 1) rfl rfl (em_tup2 (K := K) (el_ix (el_cell (i := 2) (j := 1) rfl rfl) (em_varf (i := 5) fl_int rfl r_out)) (el_ix (el_cell (i := 2) (j := 1) rfl rfl) (em_varf (i := 4) fl_int rfl r_into))) (fun _ => (em_varf (i := 4) fl_int rfl r_into)) (fun _ => (em_varf (i := 5) fl_int rfl r_out)) hx rfl rfl hs1 hs2 k fun F H e k => ?_
        obtain ⟨grid, ez_⟩ : ∃ z, z = grid_n := ⟨_, rfl⟩; subst ez_
        have r_made := (rLst rInt).up e r_made
        have eL17 := eL17.trans e
        have eJ19 := eJ19.trans e
        have k : Cov c F [(p_spring_here, cLst rInt spring_here), (p_grid, cLst (rLst rInt) grid)] H := k
        have hm := Option.some.inj hm
        cases hm
        exact ⟨F, rfl, eJ19, k⟩
      ·
        subst eb
        dsimp only at hm
        have hm := hF hm
        obtain ⟨spring_here, ez_⟩ : ∃ z, z = spring_here_n := ⟨_, rfl⟩; subst ez_
        have k : Cov c F [(p_spring_here, cLst rInt spring_here), (p_grid, cLst (rLst rInt) grid)] H := k
        have r_made := (rLst rInt).up e r_made
        have eL17 := eL17.trans e
        have eJ19 := eJ19.trans e
        show Ends.nx _ _ _
        have hm := Option.some.inj hm
        cases hm
        exact ⟨F, rfl, eJ19, k⟩
    rintro σ1 H ⟨F, rfl, e, k⟩
    clear hj
    obtain ⟨grid, ez_⟩ : ∃ z, z = grid_j := ⟨_, rfl⟩; subst ez_
    obtain ⟨spring_here, ez_⟩ : ∃ z, z = spring_here_j := ⟨_, rfl⟩; subst ez_
    have r_made := (rLst rInt).up e r_made
    have eL17 := eL17.trans e
    obtain ⟨⟨b, spring_here_n⟩, hb, hm⟩ := bind_some hm
    refine a_ifS (cs' := (fun spring_here => [(p_spring_here, cLst rInt spring_here), (p_grid, cLst (rLst rInt) grid)])) (st_test (cs := (fun spring_here => [(p_spring_here, cLst rInt spring_here), (p_grid, cLst (rLst rInt) grid)])) (s := spring_here) (sm_op (cs := (fun spring_here => [(p_spring_here, cLst rInt spring_here), (p_grid, cLst (rLst rInt) grid)])) (s := spring_here) vo_eqI (sm_Mcall1 (cs := (fun spring_here => [(p_spring_here, cLst rInt spring_here), (p_grid, cLst (rLst rInt) grid)])) (s := spring_here) (cell := fun z => cLst rInt z) (i0 := 0) (j0 := 0) rfl (fun _ => rfl) (fun _ _ => rfl) (EM.sm (cs := (fun spring_here => [(p_spring_here, cLst rInt spring_here), (p_grid, cLst (rLst rInt) grid)])) (s := spring_here) em_int)) fun spring_here => (EM.sm (cs := (fun spring_here => [(p_spring_here, cLst rInt spring_here), (p_grid, cLst (rLst rInt) grid)])) (s := spring_here) em_int))) hb k (fun eb F H e k => ?_) (fun eb F H e k => ?_)
    ·
      subst eb
      dsimp only at hm
      have hm := hT hm
      obtain ⟨spring_here, ez_⟩ : ∃ z, z = spring_here_n := ⟨_, rfl⟩; subst ez_
      have k : Cov c F [(p_spring_here, cLst rInt spring_here), (p_grid, cLst (rLst rInt) grid)] H := k
      have r_made := (rLst rInt).up e r_made
      have eL17 := eL17.trans e
      obtain ⟨val, hx, hm⟩ := bind_some hm
      obtain ⟨ix, hi, hm⟩ := bind_some hm
      obtain ⟨grid_n, hs, hm⟩ := bind_some hm
      refine a_sub (i := 2) (j := 1) rfl rfl ((ef_lc (K := K) (t := yes) (f := fun (value : Int) => (some (0 - value))) (S := (fun d F1 σ2 => ∃ v_value, σ2 = [some (.ref p_spring_here), some v_axes, some (.ref p_grid), some v_step, some v_into, some v_out, some v_times, some v_made, none, none, some v_value] ∧ rInt.r F1 v_value d)) (ei_list (el_ix (el_cell (i := 2) (j := 1) rfl rfl) (em_varf (i := 4) fl_int rfl r_into))) (gt_name (fun _ => rfl)) (fun d F1 σ2 hs => by obtain ⟨_, rfl, _⟩ := hs; rfl) (fun _ _ _ _ _ => et_yes) (by intro value F1 σ2 e1 hs; obtain ⟨v_value, rfl, r_value⟩ := hs; have r_made := (rLst rInt).up e1 r_made; exact (em_op vo_sub em_int (em_varf (i := 10) fl_int rfl r_value))))).em (em_varf (i := 4) fl_int rfl r_into) hx hi hs k fun F H e k => ?_
      obtain ⟨grid, ez_⟩ : ∃ z, z = grid_n := ⟨_, rfl⟩; subst ez_
      have r_made := (rLst rInt).up e r_made
      have eL17 := eL17.trans e
      have k : Cov c F [(p_spring_here, cLst rInt spring_here), (p_grid, cLst (rLst rInt) grid)] H := k
      have hm := Option.some.inj hm
      subst hm
      exact ⟨F, _, _, _, _, _, rfl, eL17, k⟩
    ·
      subst eb
      dsimp only at hm
      have hm := hF hm
      obtain ⟨spring_here, ez_⟩ : ∃ z, z = spring_here_n := ⟨_, rfl⟩; subst ez_
      have k : Cov c F [(p_spring_here, cLst rInt spring_here), (p_grid, cLst (rLst rInt) grid)] H := k
      have r_made := (rLst rInt).up e r_made
      have eL17 := eL17.trans e
      show Ends.nx _ _ _
      have hm := Option.some.inj hm
      subst hm
      exact ⟨F, _, _, _, _, _, rfl, eL17, k⟩
  obtain ⟨spring_here, grid⟩ := g1_
  rintro σ1 F H ⟨w_into, w_out, w_times, w_made, w_step, rfl, e1, k⟩
  refine nxh ?_
  obtain ⟨F, e, k, rz_⟩ := k.frzL 1 rfl n_grid
  have r_grid : ((rLst (rLst rInt))).r F (.ref p_grid) grid := rz_
  have k : Cov c F [(p_spring_here, cLst rInt spring_here)] H := k
  obtain ⟨rv, hv, hm⟩ := bind_some hm
  have hm := Option.some.inj hm
  cases hm
  exact a_ret (em_var (i := 2) rfl r_grid) hv k fun v F H e k r => hQ v F H (k.keepN 1) r
abbrev s_line_ : Stmt := topS 53
abbrev N_line_ : List PySem.Str := ["_law_spring_here", "_law_axes", "_law_wide", "_law_spot", "_law_ahead", "_law_times", "_law_first", "_law_apart", "_law_k", "_law_value"]
theorem sc_line_ : FnScope N_line_ ["_law_spring_here", "_law_axes"] (defScope s_line_) := ⟨rfl, rfl, rfl, by decide +kernel, rfl, by decide +kernel, by decide +kernel⟩
def sp_line_ (K : PySem.W.Frag) : Sp := (MPsp1 (fun z => cLst rInt z) rInt (rP2 K (rTup K rInt) (rTup K rInt)) m_line_)
theorem ok_line_ {P : Program} {w : World} {K : PySem.W.Frag} {mg : PySem.Str → Option Value} {base : Heap} (T : Txt mg) (L : ClsF K mg) (E_ : ErrF K mg erL) (C_sip : Cal P w K mg base 1 "_law_sip" ["_law_spring_here", "_law_many"] (sp_sip K) (fun _ => True)) (C_far : Cal P w K mg base 2 "_law_far" ["_law_spring_here", "_law_wide"] (sp_far K) (fun _ => True)) {f : Addr} {fd : FuncData} (Fn : FnP K "_law_line" s_line_ f fd) : FnOk P w K mg base CX0 3 f fd ["_law_spring_here", "_law_axes"] (sp_line_ K) := by
  obtain ⟨f_sip, fd_sip, G_sip, g_sip, kp_sip, b_sip, _⟩ := C_sip.ex
  obtain ⟨f_far, fd_far, G_far, g_far, kp_far, b_far, _⟩ := C_far.ex
  refine Fn.ok sc_line_ (fun vs H Q E h => MPsp1_len h) (fun cdv A outer s H vs Q E hr h => ?_)
  obtain ⟨F, p_spring_here, v_axes, spring_here, axes, res, s_out, rfl, k, r_axes, hm, hQ⟩ := h
  generalize hc : Act.mk H F [p_spring_here] = c at k hQ
  unfold m_line_ at hm
  refine ⟨_, PSs.nox (pss_cons (ps_set (i := 2) sc_line_.nd rfl (Or.inr rfl) (pe_ix (ix_listK K rfl) (pe_lst (pa_cons pe_int (pa_cons pe_int (pa_cons (pe_op op_pow pe_int pe_int) pa_nil)))) (pe_call G_sip (hr.mono (by decide)) (by rfl) g_sip kp_sip b_sip .nil pass0 (pa_cons (pv 0) (pa_cons pe_int pa_nil))) (fun _ _ => rfl))) (pss_cons (ps_set (i := 3) sc_line_.nd rfl (Or.inl rfl) (pe_call G_sip (hr.mono (by decide)) (by rfl) g_sip kp_sip b_sip .nil pass0 (pa_cons (pv 0) (pa_cons (pv 1) pa_nil)))) (pss_cons (ps_setLc (i := 4) (own := [("_law_k", 8)]) (g := (gName 8)) (tt := tYes) rfl sc_line_.nd rfl rfl (sw_true rfl rfl rfl (by decide +kernel)) (pi_range1 (by rfl) T.b_range (pa_cons (pv 1) pa_nil)) (blkOk_by (N := N_line_) (sc := defScope s_line_) (by decide +kernel)) (fun _ _ _ _ _ => (pg_name (i := 8) sc_line_.nd rfl (Or.inl rfl))) (fun _ _ _ _ _ => pts_nil) (fun _ _ _ _ _ => (pe_call G_far (hr.mono (by decide)) (by rfl) g_far kp_far b_far .nil pass0 (pa_cons (pv 0) (pa_cons (pv 2) pa_nil))))) (pss_cons (ps_asg (pe_op op_sub pe_int (pe_op op_mulI pe_int (pe_call G_sip (hr.mono (by decide)) (by rfl) g_sip kp_sip b_sip .nil pass0 (pa_cons (pv 0) (pa_cons pe_int pa_nil))))) (pg_sub (pv 4) (pv 3) set_list)) (pss_cons (ps_set (i := 5) sc_line_.nd rfl (Or.inr rfl) (pe_call G_far (hr.mono (by decide)) (by rfl) g_far kp_far b_far .nil pass0 (pa_cons (pv 0) (pa_cons (pe_ix (ix_listK K rfl) (pe_lst (pa_cons pe_int (pa_cons pe_int (pa_cons (pe_op op_pow pe_int pe_int) pa_nil)))) (pe_call G_sip (hr.mono (by decide)) (by rfl) g_sip kp_sip b_sip .nil pass0 (pa_cons (pv 0) (pa_cons pe_int pa_nil))) (fun _ _ => rfl)) pa_nil)))) (pss_cons (ps_setLc (i := 6) (own := [("_law_value", 9)]) (g := (gName 9)) (tt := tYes) rfl sc_line_.nd rfl rfl (sw_true rfl rfl rfl (by decide +kernel)) (pi_listK K rfl (pv 4)) (blkOk_by (N := N_line_) (sc := defScope s_line_) (by decide +kernel)) (fun _ _ _ _ _ => (pg_name (i := 9) sc_line_.nd rfl (Or.inl rfl))) (fun _ _ _ _ _ => pts_nil) (fun _ _ _ _ _ => (pe_op op_mulI (pv 5) (pv 9)))) (pss_cons (ps_set (i := 7) sc_line_.nd rfl (Or.inl rfl) (pe_ix (ix_listK K rfl) (pe_lst (pa_cons pe_int (pa_cons pe_int (pa_cons pe_int (pa_cons pe_int pa_nil))))) (pe_call G_sip (hr.mono (by decide)) (by rfl) g_sip kp_sip b_sip .nil pass0 (pa_cons (pv 0) (pa_cons pe_int pa_nil))) (fun _ _ => rfl))) (pss_cons (ps_for PassesOwn.never rfl (pi_range1 (by rfl) T.b_range (pa_cons (pv 1) pa_nil)) (pg_name (i := 8) sc_line_.nd rfl (Or.inl rfl)) (pss_one (ps_if (pt_cmpR op_ne (pv 8) (pv 3) (nomark _)) (pss_one (ps_asg (pe_op op_add (pe_ix (ix_listK K rfl) (pv 6) (pv 8) (fun _ _ => rfl)) (pe_op op_mulI (pv 7) (pe_op op_sub (pe_call G_sip (hr.mono (by decide)) (by rfl) g_sip kp_sip b_sip .nil pass0 (pa_cons (pv 0) (pa_cons pe_int pa_nil))) pe_int))) (pg_sub (pv 6) (pv 8) set_list))) pss_nil))) (pss_one (ps_ret (pe_tup (pa_cons (pe_callTy (call_tuple_ofK K rfl) (by rfl) T.b_tuple (by decide +kernel) (pa_cons (pv 6) pa_nil)) (pa_cons (pe_callTy (call_tuple_ofK K rfl) (by rfl) T.b_tuple (by decide +kernel) (pa_cons (pv 4) pa_nil)) pa_nil))))))))))))), ?_⟩
  show (_ : TS) _ [some (.ref p_spring_here), some v_axes, none, none, none, none, none, none, none, none] _
  obtain ⟨⟨wide_n, spring_here_n⟩, hx, hm⟩ := bind_some hm
  refine q_setS (cs' := (fun spring_here => [(p_spring_here, cLst rInt spring_here)])) (sm_ix (cs := (fun spring_here => [(p_spring_here, cLst rInt spring_here)])) (s := spring_here) (EM.sm (cs := (fun spring_here => [(p_spring_here, cLst rInt spring_here)])) (s := spring_here) ((ef_lst (ea_cons em_int (ea_cons em_int (ea_cons (em_powC (n := 19) rfl (by decide) (by decide)) ea_nil))))).em) fun spring_here => (sm_Mcall1 (cs := (fun spring_here => [(p_spring_here, cLst rInt spring_here)])) (s := spring_here) (cell := fun z => cLst rInt z) (i0 := 0) (j0 := 0) rfl (fun _ => rfl) (fun _ _ => rfl) (EM.sm (cs := (fun spring_here => [(p_spring_here, cLst rInt spring_here)])) (s := spring_here) em_int))) hx k fun v_wide F H e k r_wide => ?_
  obtain ⟨wide, ez_⟩ : ∃ z, z = wide_n := ⟨_, rfl⟩; subst ez_
  obtain ⟨spring_here, ez_⟩ : ∃ z, z = spring_here_n := ⟨_, rfl⟩; subst ez_
  have k : Cov c F [(p_spring_here, cLst rInt spring_here)] H := k
  show (_ : TS) _ [some (.ref p_spring_here), some v_axes, some v_wide, none, none, none, none, none, none, none] _
  obtain ⟨⟨spot_n, spring_here_n⟩, hx, hm⟩ := bind_some hm
  refine q_setS (cs' := (fun spring_here => [(p_spring_here, cLst rInt spring_here)])) (sm_Mcall1 (cs := (fun spring_here => [(p_spring_here, cLst rInt spring_here)])) (s := spring_here) (cell := fun z => cLst rInt z) (i0 := 0) (j0 := 0) rfl (fun _ => rfl) (fun _ _ => rfl) (EM.sm (cs := (fun spring_here => [(p_spring_here, cLst rInt spring_here)])) (s := spring_here) (em_varf (i := 1) fl_int rfl r_axes))) hx k fun v_spot F H e k r_spot => ?_
  obtain ⟨spot, ez_⟩ : ∃ z, z = spot_n := ⟨_, rfl⟩; subst ez_
  obtain ⟨spring_here, ez_⟩ : ∃ z, z = spring_here_n := ⟨_, rfl⟩; subst ez_
  have k : Cov c F [(p_spring_here, cLst rInt spring_here)] H := k
  show (_ : TS) _ [some (.ref p_spring_here), some v_axes, some v_wide, some v_spot, none, none, none, none, none, none] _
  obtain ⟨⟨ahead_n, spring_here_n⟩, hx, hm⟩ := bind_some hm
  refine q_setSF (cs' := (fun spring_here => [(p_spring_here, cLst rInt spring_here)])) (sf_lc (K := K) (cs := (fun spring_here => [(p_spring_here, cLst rInt spring_here)])) (s := spring_here) (f := fun (k_ : Int) => fun spring_here => (s1 (fun a0 s => m_far s a0) (sP (some wide) spring_here))) (S := (fun d F1 σ2 => ∃ v_k_, σ2 = [some (.ref p_spring_here), some v_axes, some v_wide, some v_spot, none, none, none, none, some v_k_, none] ∧ rInt.r F1 v_k_ d)) (ei_rng1 (em_varf (i := 1) fl_int rfl r_axes)) (gt_name (fun _ => rfl)) (fun d F1 σ2 hs => by obtain ⟨_, rfl, _⟩ := hs; rfl) (by intro k_ F1 σ2 spring_here e1 hs; obtain ⟨v_k_, rfl, r_k_⟩ := hs; exact (sm_Mcall1 (cs := (fun spring_here => [(p_spring_here, cLst rInt spring_here)])) (s := spring_here) (cell := fun z => cLst rInt z) (i0 := 0) (j0 := 0) rfl (fun _ => rfl) (fun _ _ => rfl) (EM.sm (cs := (fun spring_here => [(p_spring_here, cLst rInt spring_here)])) (s := spring_here) (em_varf (i := 2) fl_int rfl r_wide)))) (fun _ _ => rfl)) hx k fun p_ahead F H e k n_ahead => ?_
  obtain ⟨ahead, ez_⟩ : ∃ z, z = ahead_n := ⟨_, rfl⟩; subst ez_
  obtain ⟨spring_here, ez_⟩ : ∃ z, z = spring_here_n := ⟨_, rfl⟩; subst ez_
  have k : Cov c F [(p_spring_here, cLst rInt spring_here), (p_ahead, cLst rInt ahead)] H := k
  show (_ : TS) _ [some (.ref p_spring_here), some v_axes, some v_wide, some v_spot, some (.ref p_ahead), none, none, none, none, none] _
  obtain ⟨⟨⟨val, ix⟩, spring_here_n⟩, hx, hm⟩ := bind_some hm
  obtain ⟨ahead_n, hs, hm⟩ := bind_some hm
  refine q_subS (cs := (fun spring_here => [(p_spring_here, cLst rInt spring_here), (p_ahead, cLst rInt ahead)])) (s := spring_here) (i := 4) (j := 1) rfl (fun _ => rfl) (sm_op (cs := (fun spring_here => [(p_spring_here, cLst rInt spring_here), (p_ahead, cLst rInt ahead)])) (s := spring_here) vo_sub (EM.sm (cs := (fun spring_here => [(p_spring_here, cLst rInt spring_here), (p_ahead, cLst rInt ahead)])) (s := spring_here) em_int) fun spring_here => (sm_op (cs := (fun spring_here => [(p_spring_here, cLst rInt spring_here), (p_ahead, cLst rInt ahead)])) (s := spring_here) vo_mul (EM.sm (cs := (fun spring_here => [(p_spring_here, cLst rInt spring_here), (p_ahead, cLst rInt ahead)])) (s := spring_here) em_int) fun spring_here => (sm_Mcall1 (cs := (fun spring_here => [(p_spring_here, cLst rInt spring_here), (p_ahead, cLst rInt ahead)])) (s := spring_here) (cell := fun z => cLst rInt z) (i0 := 0) (j0 := 0) rfl (fun _ => rfl) (fun _ _ => rfl) (EM.sm (cs := (fun spring_here => [(p_spring_here, cLst rInt spring_here), (p_ahead, cLst rInt ahead)])) (s := spring_here) em_int)))) (fun spring_here => (EM.sm (cs := (fun spring_here => [(p_spring_here, cLst rInt spring_here), (p_ahead, cLst rInt ahead)])) (s := spring_here) (em_varf (i := 3) fl_int rfl r_spot))) hx hs k fun F H e k => ?_
  obtain ⟨ahead, ez_⟩ : ∃ z, z = ahead_n := ⟨_, rfl⟩; subst ez_
  obtain ⟨spring_here, ez_⟩ : ∃ z, z = spring_here_n := ⟨_, rfl⟩; subst ez_
  have k : Cov c F [(p_spring_here, cLst rInt spring_here), (p_ahead, cLst rInt ahead)] H := k
  obtain ⟨F, e, k, rz_⟩ := k.frzL 1 rfl n_ahead
  have r_ahead : ((rLst rInt)).r F (.ref p_ahead) ahead := rz_
  have k : Cov c F [(p_spring_here, cLst rInt spring_here)] H := k
  obtain ⟨⟨times_n, spring_here_n⟩, hx, hm⟩ := bind_some hm
  refine q_setS (cs' := (fun spring_here => [(p_spring_here, cLst rInt spring_here)])) (sm_Mcall1 (cs := (fun spring_here => [(p_spring_here, cLst rInt spring_here)])) (s := spring_here) (cell := fun z => cLst rInt z) (i0 := 0) (j0 := 0) rfl (fun _ => rfl) (fun _ _ => rfl) (sm_ix (cs := (fun spring_here => [(p_spring_here, cLst rInt spring_here)])) (s := spring_here) (EM.sm (cs := (fun spring_here => [(p_spring_here, cLst rInt spring_here)])) (s := spring_here) ((ef_lst (ea_cons em_int (ea_cons em_int (ea_cons (em_powC (n := 19) rfl (by decide) (by decide)) ea_nil))))).em) fun spring_here => (sm_Mcall1 (cs := (fun spring_here => [(p_spring_here, cLst rInt spring_here)])) (s := spring_here) (cell := fun z => cLst rInt z) (i0 := 0) (j0 := 0) rfl (fun _ => rfl) (fun _ _ => rfl) (EM.sm (cs := (fun spring_here => [(p_spring_here, cLst rInt spring_here)])) (s := spring_here) em_int)))) hx k fun v_times F H e k r_times => ?_
  obtain ⟨times, ez_⟩ : ∃ z, z = times_n := ⟨_, rfl⟩; subst ez_
  obtain ⟨spring_here, ez_⟩ : ∃ z, z = spring_here_n := ⟨_, rfl⟩; subst ez_
  have k : Cov c F [(p_spring_here, cLst rInt spring_here)] H := k
  show (_ : TS) _ [some (.ref p_spring_here), some v_axes, some v_wide, some v_spot, some (.ref p_ahead), some v_times, none, none, none, none] _
  have r_ahead := (rLst rInt).up e r_ahead
  obtain ⟨first_n, hx, hm⟩ := bind_some hm
  refine q_setF (ef_lc (K := K) (t := yes) (f := fun (value : Int) => (o2 mulG (some times) (some value))) (S := (fun d F1 σ2 => ∃ v_value, σ2 = [some (.ref p_spring_here), some v_axes, some v_wide, some v_spot, some (.ref p_ahead), some v_times, none, none, none, some v_value] ∧ rInt.r F1 v_value d)) (ei_list (em_var (i := 4) rfl r_ahead)) (gt_name (fun _ => rfl)) (fun d F1 σ2 hs => by obtain ⟨_, rfl, _⟩ := hs; rfl) (fun _ _ _ _ _ => et_yes) (by intro value F1 σ2 e1 hs; obtain ⟨v_value, rfl, r_value⟩ := hs; have r_ahead := (rLst rInt).up e1 r_ahead; exact (em_op vo_mul (em_varf (i := 5) fl_int rfl r_times) (em_varf (i := 9) fl_int rfl r_value)))) hx k fun p_first F H e k n_first => ?_
  obtain ⟨first, ez_⟩ : ∃ z, z = first_n := ⟨_, rfl⟩; subst ez_
  show (_ : TS) _ [some (.ref p_spring_here), some v_axes, some v_wide, some v_spot, some (.ref p_ahead), some v_times, some (.ref p_first), none, none, none] _
  have r_ahead := (rLst rInt).up e r_ahead
  obtain ⟨⟨apart_n, spring_here_n⟩, hx, hm⟩ := bind_some hm
  refine q_setS (cs' := (fun spring_here => [(p_spring_here, cLst rInt spring_here), (p_first, cLst rInt first)])) (sm_ix (cs := (fun spring_here => [(p_spring_here, cLst rInt spring_here), (p_first, cLst rInt first)])) (s := spring_here) (EM.sm (cs := (fun spring_here => [(p_spring_here, cLst rInt spring_here), (p_first, cLst rInt first)])) (s := spring_here) ((ef_lst (ea_cons em_int (ea_cons em_int (ea_cons em_int (ea_cons em_int ea_nil)))))).em) fun spring_here => (sm_Mcall1 (cs := (fun spring_here => [(p_spring_here, cLst rInt spring_here), (p_first, cLst rInt first)])) (s := spring_here) (cell := fun z => cLst rInt z) (i0 := 0) (j0 := 0) rfl (fun _ => rfl) (fun _ _ => rfl) (EM.sm (cs := (fun spring_here => [(p_spring_here, cLst rInt spring_here), (p_first, cLst rInt first)])) (s := spring_here) em_int))) hx k fun v_apart F H e k r_apart => ?_
  obtain ⟨apart, ez_⟩ : ∃ z, z = apart_n := ⟨_, rfl⟩; subst ez_
  obtain ⟨spring_here, ez_⟩ : ∃ z, z = spring_here_n := ⟨_, rfl⟩; subst ez_
  have k : Cov c F [(p_spring_here, cLst rInt spring_here), (p_first, cLst rInt first)] H := k
  show (_ : TS) _ [some (.ref p_spring_here), some v_axes, some v_wide, some v_spot, some (.ref p_ahead), some v_times, some (.ref p_first), some v_apart, none, none] _
  have r_ahead := (rLst rInt).up e r_ahead
  obtain ⟨l_, hl, hm⟩ := bind_some hm
  obtain ⟨g1_, hf, hm⟩ := bind_some hm
  refine sq ?_
  refine a_for (ei_rng1 (em_varf (i := 1) fl_int rfl r_axes)) hl k hf fun F H e k => ⟨fun g σ1 F1 H1 => ∃ w_k_, σ1 = [some (.ref p_spring_here), some v_axes, some v_wide, some v_spot, some (.ref p_ahead), some v_times, some (.ref p_first), some v_apart, w_k_, none] ∧ Ex F F1 ∧ Cov c F1 [(p_spring_here, cLst rInt g.2), (p_first, cLst rInt g.1)] H1, fun g => [(p_spring_here, cLst rInt g.2), (p_first, cLst rInt g.1)], ?_, ?_, ?_, ?_⟩
  · exact ⟨_, rfl, Evl.Ex.refl _, k⟩
  · rintro g σ1 F1 H1 ⟨_, rfl, e1, k1⟩
    exact ⟨e1, k1⟩
  · rintro d v ⟨first, spring_here⟩ g2 σ1 F1 H1 F H ⟨w_k_, rfl, eL20, _⟩ e1 k rd hm
    have eL20 := eL20.trans e1
    have r_ahead := (rLst rInt).up (e.trans eL20) r_ahead
    obtain ⟨k_, ez_⟩ : ∃ z, z = d := ⟨_, rfl⟩; subst ez_
    obtain ⟨v_k_, ez_⟩ : ∃ z, z = v := ⟨_, rfl⟩; subst ez_
    have r_k_ := rd
    refine gn (σ1 := [some (.ref p_spring_here), some v_axes, some v_wide, some v_spot, some (.ref p_ahead), some v_times, some (.ref p_first), some v_apart, some v_k_, none]) rfl ?_
    obtain ⟨b, hb, hm⟩ := bind_some hm
    refine a_if (et_test (em_op vo_neI (em_varf (i := 8) fl_int rfl r_k_) (em_varf (i := 3) fl_int rfl r_spot))) hb k (fun eb F H e k => ?_) (fun eb F H e k => ?_)
    ·
      subst eb
      have hm := hT hm
      have r_ahead := (rLst rInt).up e r_ahead
      have eL20 := eL20.trans e
      obtain ⟨⟨⟨val, ix⟩, spring_here_n⟩, hx, hm⟩ := bind_some hm
      obtain ⟨first_n, hs, hm⟩ := bind_some hm
      refine a_subS (cs := (fun spring_here => [(p_spring_here, cLst rInt spring_here), (p_first, cLst rInt first)])) (s := spring_here) (i := 6) (j := 1) rfl (fun _ => rfl) (sm_op (cs := (fun spring_here => [(p_spring_here, cLst rInt spring_here), (p_first, cLst rInt first)])) (s := spring_here) vo_add (EM.sm (cs := (fun spring_here => [(p_spring_here, cLst rInt spring_here), (p_first, cLst rInt first)])) (s := spring_here) (el_ix (el_cell (i := 6) (j := 1) rfl rfl) (em_varf (i := 8) fl_int rfl r_k_))) fun spring_here => (sm_op (cs := (fun spring_here => [(p_spring_here, cLst rInt spring_here), (p_first, cLst rInt first)])) (s := spring_here) vo_mul (EM.sm (cs := (fun spring_here => [(p_spring_here, cLst rInt spring_here), (p_first, cLst rInt first)])) (s := spring_here) (em_varf (i := 7) fl_int rfl r_apart)) fun spring_here => (sm_op (cs := (fun spring_here => [(p_spring_here, cLst rInt spring_here), (p_first, cLst rInt first)])) (s := spring_here) vo_sub (sm_Mcall1 (cs := (fun spring_here => [(p_spring_here, cLst rInt spring_here), (p_first, cLst rInt first)])) (s := spring_here) (cell := fun z => cLst rInt z) (i0 := 0) (j0 := 0) rfl (fun _ => rfl) (fun _ _ => rfl) (EM.sm (cs := (fun spring_here => [(p_spring_here, cLst rInt spring_here), (p_first, cLst rInt first)])) (s := spring_here) em_int)) fun spring_here => (EM.sm (cs := (fun spring_here => [(p_spring_here, cLst rInt spring_here), (p_first, cLst rInt first)])) (s := spring_here) em_int)))) (fun spring_here => (EM.sm (cs := (fun spring_here => [(p_spring_here, cLst rInt spring_here), (p_first, cLst rInt first)])) (s := spring_here) (em_varf (i := 8) fl_int rfl r_k_))) hx hs k fun F H e k => ?_
      obtain ⟨first, ez_⟩ : ∃ z, z = first_n := ⟨_, rfl⟩; subst ez_
      obtain ⟨spring_here, ez_⟩ : ∃ z, z = spring_here_n := ⟨_, rfl⟩; subst ez_
      have r_ahead := (rLst rInt).up e r_ahead
      have eL20 := eL20.trans e
      have k : Cov c F [(p_spring_here, cLst rInt spring_here), (p_first, cLst rInt first)] H := k
      have hm := Option.some.inj hm
      subst hm
      exact ⟨F, _, rfl, eL20, k⟩
    ·
      subst eb
      have hm := hF hm
      have r_ahead := (rLst rInt).up e r_ahead
      have eL20 := eL20.trans e
      show Ends.nx _ _ _
      have hm := Option.some.inj hm
      subst hm
      exact ⟨F, _, rfl, eL20, k⟩
  obtain ⟨first, spring_here⟩ := g1_
  rintro σ1 F H ⟨w_k_, rfl, e1, k⟩
  have r_ahead := (rLst rInt).up (e.trans e1) r_ahead
  refine nxh ?_
  obtain ⟨F, e, k, rz_⟩ := k.frzL 1 rfl n_first
  have r_first : ((rLst rInt)).r F (.ref p_first) first := rz_
  have r_ahead := (rLst rInt).up e r_ahead
  have k : Cov c F [(p_spring_here, cLst rInt spring_here)] H := k
  obtain ⟨rv, hv, hm⟩ := bind_some hm
  have hm := Option.some.inj hm
  cases hm
  exact a_ret (em_tup2 (K := K) (el_tuple ((em_var (i := 6) rfl r_first)).el) (el_tuple ((em_var (i := 4) rfl r_ahead)).el)) hv k fun v F H e k r => hQ v F H (k.keepN 1) r
abbrev s_again : Stmt := topS 54
abbrev N_again : List PySem.Str := ["_law_picture", "_law_words", "_law_text", "_law_again_here", "_law_spot", "_law_word"]
theorem sc_again : FnScope N_again ["_law_picture"] (defScope s_again) := ⟨rfl, rfl, rfl, by decide +kernel, rfl, by decide +kernel, by decide +kernel⟩
def sp_again (K : PySem.W.Frag) : Sp := (Psp1 (rO4 (He.ga K "Picture") "dimension" "words" "seen_places" "hidden_places" rInt (rDic rStr) (rLst (rTup K rInt)) (rLst (rTup K rInt))) (rOpt (rO4 (He.ga K "Picture") "dimension" "words" "seen_places" "hidden_places" rInt (rDic rStr) (rLst (rTup K rInt)) (rLst (rTup K rInt)))) m_again)
theorem ok_again {P : Program} {w : World} {K : PySem.W.Frag} {mg : PySem.Str → Option Value} {base : Heap} (T : Txt mg) (L : ClsF K mg) (E_ : ErrF K mg erL) (C_Picture___len__ : CalO P w K mg base 1 (He.ga K "Picture") "__len__" ["self"] (sp_Picture___len__ K) (fun _ => True)) (C_Picture___eq__ : CalO P w K mg base 1 (He.ga K "Picture") "__eq__" ["self", "other"] (sp_Picture___eq__ K) (fun _ => True)) (C_show_place : Cal P w K mg base 1 "show_place" ["place"] (sp_show_place K) (fun _ => True)) (C_Picture_size : CalP P w K mg base 1 (He.ga K "Picture") "size" ["self"] (sp_Picture_size K) (fun _ => True)) (C_Picture_seen : CalP P w K mg base 1 (He.ga K "Picture") "seen" ["self"] (sp_Picture_seen K) (fun _ => True)) (C_Picture_hidden : CalP P w K mg base 1 (He.ga K "Picture") "hidden" ["self"] (sp_Picture_hidden K) (fun _ => True)) (C_show_picture : Cal P w K mg base 3 "show_picture" ["picture"] (sp_show_picture K) (fun _ => True)) (C_read_place : CalX P w K mg base 3 "read_place" ["text"] (sp_read_place K) (fun _ => True)) (C_read_picture : CalX P w K mg base 3 "read_picture" ["text"] (sp_read_picture K) (fun _ => True)) {f : Addr} {fd : FuncData} (Fn : FnP K "_law_again" s_again f fd) : FnOk P w K mg base CX0 4 f fd ["_law_picture"] (sp_again K) := by
  obtain ⟨f_Picture___len__, fd_Picture___len__, G_Picture___len__, D_Picture___len__, b_Picture___len__, _⟩ := C_Picture___len__.ex
  obtain ⟨f_Picture___eq__, fd_Picture___eq__, G_Picture___eq__, D_Picture___eq__, b_Picture___eq__, _⟩ := C_Picture___eq__.ex
  obtain ⟨f_show_place, fd_show_place, G_show_place, g_show_place, kp_show_place, b_show_place, _⟩ := C_show_place.ex
  obtain ⟨f_Picture_size, fd_Picture_size, p_Picture_size, G_Picture_size, P_Picture_size, b_Picture_size, _⟩ := C_Picture_size.ex
  obtain ⟨f_Picture_seen, fd_Picture_seen, p_Picture_seen, G_Picture_seen, P_Picture_seen, b_Picture_seen, _⟩ := C_Picture_seen.ex
  obtain ⟨f_Picture_hidden, fd_Picture_hidden, p_Picture_hidden, G_Picture_hidden, P_Picture_hidden, b_Picture_hidden, _⟩ := C_Picture_hidden.ex
  obtain ⟨f_show_picture, fd_show_picture, G_show_picture, g_show_picture, kp_show_picture, b_show_picture, _⟩ := C_show_picture.ex
  obtain ⟨f_read_place, fd_read_place, G_read_place, g_read_place, kp_read_place, b_read_place, _⟩ := C_read_place.ex
  obtain ⟨f_read_picture, fd_read_picture, G_read_picture, g_read_picture, kp_read_picture, b_read_picture, _⟩ := C_read_picture.ex
  refine Fn.ok sc_again (fun vs H Q E h => Psp1_len h) (fun cdv A outer s H vs Q E hr h => ?_)
  obtain ⟨F, v_picture, picture, res, rfl, ex, r_picture, hm, hQ⟩ := h
  have k := Cov.init ex
  generalize hc : Act.mk H F [] = c at k hQ
  unfold m_again at hm
  refine ⟨_, PSs.nox (pss_cons (ps_set (i := 1) sc_again.nd rfl (Or.inl rfl) (pe_op op_cat (pe_lst (pa_cons (pe_callTy call_str_int (by rfl) T.b_str (by decide +kernel) (pa_cons (pe_prop (pv 0) L.cl_Picture P_Picture_size G_Picture_size (hr.mono (by decide)) b_Picture_size .nil pass0 (by rfl)) pa_nil)) (pa_cons pe_str pa_nil))) (pe_lc (own := [("_law_spot", 4)]) (g := (gName 4)) (tt := tYes) rfl sc_again.nd (pi_listK K rfl (pe_prop (pv 0) L.cl_Picture P_Picture_seen G_Picture_seen (hr.mono (by decide)) b_Picture_seen .nil pass0 (by rfl))) (blkOk_by (N := N_again) (sc := defScope s_again) (by decide +kernel)) (fun _ _ _ _ _ => (pg_name (i := 4) sc_again.nd rfl (Or.inl rfl))) (fun _ _ _ _ _ => pts_nil) (fun _ _ _ _ _ => (pe_call G_show_place (hr.mono (by decide)) (by rfl) g_show_place kp_show_place b_show_place .nil pass0 (pa_cons (pv 4) pa_nil)))))) (pss_cons (ps_set (i := 1) sc_again.nd rfl (Or.inl rfl) (pe_op op_cat (pe_op op_cat (pv 1) (pe_lst (pa_cons pe_str pa_nil))) (pe_lc (own := [("_law_spot", 4)]) (g := (gName 4)) (tt := tYes) rfl sc_again.nd (pi_listK K rfl (pe_prop (pv 0) L.cl_Picture P_Picture_hidden G_Picture_hidden (hr.mono (by decide)) b_Picture_hidden .nil pass0 (by rfl))) (blkOk_by (N := N_again) (sc := defScope s_again) (by decide +kernel)) (fun _ _ _ _ _ => (pg_name (i := 4) sc_again.nd rfl (Or.inl rfl))) (fun _ _ _ _ _ => pts_nil) (fun _ _ _ _ _ => (pe_call G_show_place (hr.mono (by decide)) (by rfl) g_show_place kp_show_place b_show_place .nil pass0 (pa_cons (pv 4) pa_nil)))))) (pss_cons (ps_set (i := 2) sc_again.nd rfl (Or.inl rfl) (pe_call G_show_picture (hr.mono (by decide)) (by rfl) g_show_picture kp_show_picture b_show_picture .nil pass0 (pa_cons (pv 0) pa_nil))) (pss_cons (ps_if (pt_cmpR op_ne (pv 2) (pe_join pe_str (pv 1)) (nomark _)) (pss_one (ps_ret pe_non)) pss_nil) (pss_cons (ps_set (i := 3) sc_again.nd rfl (Or.inl rfl) (pe_call G_read_picture (hr.mono (by decide)) (by rfl) g_read_picture kp_read_picture b_read_picture .nil passL (pa_cons (pv 2) pa_nil))) (pss_cons (ps_if (PW.pt (pw_or (pt_not (pt_cmpR (op_eqO D_Picture___eq__ G_Picture___eq__ (hr.mono (by decide)) b_Picture___eq__ .nil pass0) (pv 3) (pv 0) (nomark _))) (pw_or (pt_cmpR op_ne (pe_call G_show_picture (hr.mono (by decide)) (by rfl) g_show_picture kp_show_picture b_show_picture .nil pass0 (pa_cons (pv 3) pa_nil)) (pv 2) (nomark _)) (pw_or1 (pt_cmpR op_ne (pe_callB (cr_lenO D_Picture___len__ G_Picture___len__ (hr.mono (by decide)) b_Picture___len__ .nil pass0) (by rfl) T.b_len PySem.boot_len (pa_cons (pv 3) pa_nil)) (pe_callB (cr_lenO D_Picture___len__ G_Picture___len__ (hr.mono (by decide)) b_Picture___len__ .nil pass0) (by rfl) T.b_len PySem.boot_len (pa_cons (pv 0) pa_nil)) (nomark _)))))) (pss_one (ps_ret pe_non)) pss_nil) (pss_cons (ps_if (pt_cmpR (op_neDK K rfl hr.units) (pe_lc (own := [("_law_word", 5)]) (g := (gName 5)) (tt := _) rfl sc_again.nd (pi_listK K rfl (pe_slice (sl_listK K rfl) (pv 1) (po_some pe_int) po_none)) (blkOk_by (N := N_again) (sc := defScope s_again) (by decide +kernel)) (fun _ _ _ _ _ => (pg_name (i := 5) sc_again.nd rfl (Or.inl rfl))) (fun _ _ _ _ _ => (pts_one (pt_cmpR op_ne (pv 5) pe_str (nomark _)))) (fun _ _ _ _ _ => (pe_call G_read_place (hr.mono (by decide)) (by rfl) g_read_place kp_read_place b_read_place .nil passL (pa_cons (pv 5) pa_nil)))) (pe_op op_cat (pe_prop (pv 0) L.cl_Picture P_Picture_seen G_Picture_seen (hr.mono (by decide)) b_Picture_seen .nil pass0 (by rfl)) (pe_prop (pv 0) L.cl_Picture P_Picture_hidden G_Picture_hidden (hr.mono (by decide)) b_Picture_hidden .nil pass0 (by rfl))) (nomark _)) (pss_one (ps_ret pe_non)) pss_nil) (pss_one (ps_ret (pv 3)))))))))), ?_⟩
  show (_ : TS) _ [some v_picture, none, none, none, none, none] _
  obtain ⟨words_n, hx, hm⟩ := bind_some hm
  refine q_set ((ef_cat ((ef_lst (ea_cons (em_cb vc_strI (em_prop objP_O4 (em_var (i := 0) rfl r_picture))) (ea_cons em_str ea_nil)))).em.es ((ef_lc (K := K) (t := yes) (f := fun (spot : (List Int)) => (m_show_place spot)) (S := (fun d F1 σ2 => ∃ v_spot, σ2 = [some v_picture, none, none, none, some v_spot, none] ∧ (rTup K rInt).r F1 v_spot d)) (ei_list ((em_propF objP_O4 (em_var (i := 0) rfl r_picture))).em) (gt_name (fun _ => rfl)) (fun d F1 σ2 hs => by obtain ⟨_, rfl, _⟩ := hs; rfl) (fun _ _ _ _ _ => et_yes) (by intro spot F1 σ2 e1 hs; obtain ⟨v_spot, rfl, r_spot⟩ := hs; have r_picture := (rO4 (He.ga K "Picture") "dimension" "words" "seen_places" "hidden_places" rInt (rDic rStr) (rLst (rTup K rInt)) (rLst (rTup K rInt))).up e1 r_picture; exact (em_Pcall1t (em_var (i := 4) rfl r_spot))))).em.es)).em hx k fun v_words F H e k r_words => ?_
  obtain ⟨words, ez_⟩ : ∃ z, z = words_n := ⟨_, rfl⟩; subst ez_
  show (_ : TS) _ [some v_picture, some v_words, none, none, none, none] _
  have r_picture := (rO4 (He.ga K "Picture") "dimension" "words" "seen_places" "hidden_places" rInt (rDic rStr) (rLst (rTup K rInt)) (rLst (rTup K rInt))).up e r_picture
  obtain ⟨words_n, hx, hm⟩ := bind_some hm
  refine q_set ((ef_cat ((ef_cat ((em_var (i := 1) rfl r_words)).es ((ef_lst (ea_cons em_str ea_nil))).em.es)).em.es ((ef_lc (K := K) (t := yes) (f := fun (spot : (List Int)) => (m_show_place spot)) (S := (fun d F1 σ2 => ∃ v_spot, σ2 = [some v_picture, some v_words, none, none, some v_spot, none] ∧ (rTup K rInt).r F1 v_spot d)) (ei_list ((em_propF objP_O4 (em_var (i := 0) rfl r_picture))).em) (gt_name (fun _ => rfl)) (fun d F1 σ2 hs => by obtain ⟨_, rfl, _⟩ := hs; rfl) (fun _ _ _ _ _ => et_yes) (by intro spot F1 σ2 e1 hs; obtain ⟨v_spot, rfl, r_spot⟩ := hs; have r_picture := (rO4 (He.ga K "Picture") "dimension" "words" "seen_places" "hidden_places" rInt (rDic rStr) (rLst (rTup K rInt)) (rLst (rTup K rInt))).up e1 r_picture; have r_words := (rLst rStr).up e1 r_words; exact (em_Pcall1t (em_var (i := 4) rfl r_spot))))).em.es)).em hx k fun v_words F H e k r_words => ?_
  obtain ⟨words, ez_⟩ : ∃ z, z = words_n := ⟨_, rfl⟩; subst ez_
  show (_ : TS) _ [some v_picture, some v_words, none, none, none, none] _
  have r_picture := (rO4 (He.ga K "Picture") "dimension" "words" "seen_places" "hidden_places" rInt (rDic rStr) (rLst (rTup K rInt)) (rLst (rTup K rInt))).up e r_picture
  obtain ⟨text_n, hx, hm⟩ := bind_some hm
  refine q_set (em_Pcall1t (em_var (i := 0) rfl r_picture)) hx k fun v_text F H e k r_text => ?_
  obtain ⟨text, ez_⟩ : ∃ z, z = text_n := ⟨_, rfl⟩; subst ez_
  show (_ : TS) _ [some v_picture, some v_words, some v_text, none, none, none] _
  have r_picture := (rO4 (He.ga K "Picture") "dimension" "words" "seen_places" "hidden_places" rInt (rDic rStr) (rLst (rTup K rInt)) (rLst (rTup K rInt))).up e r_picture
  have r_words := (rLst rStr).up e r_words
  obtain ⟨b, hb, hm⟩ := bind_some hm
  refine q_ife (et_test (em_op vo_neS (em_varf (i := 2) fl_str rfl r_text) (em_joinL (K := K) em_str (em_var (i := 1) rfl r_words)))) hb k (fun eb F H e k => ?_) (fun eb F H e k => ?_)
  ·
    subst eb
    have hm := hT hm
    have r_picture := (rO4 (He.ga K "Picture") "dimension" "words" "seen_places" "hidden_places" rInt (rDic rStr) (rLst (rTup K rInt)) (rLst (rTup K rInt))).up e r_picture
    have r_words := (rLst rStr).up e r_words
    obtain ⟨rv, hv, hm⟩ := bind_some hm
    have hm := Option.some.inj hm
    cases hm
    exact a_ret (em_non (ra := (rO4 (He.ga K "Picture") "dimension" "words" "seen_places" "hidden_places" rInt (rDic rStr) (rLst (rTup K rInt)) (rLst (rTup K rInt))))) hv k fun v F H e k r => hQ v F H k.dropAll r
  ·
    subst eb
    have hm := hF hm
    have r_picture := (rO4 (He.ga K "Picture") "dimension" "words" "seen_places" "hidden_places" rInt (rDic rStr) (rLst (rTup K rInt)) (rLst (rTup K rInt))).up e r_picture
    have r_words := (rLst rStr).up e r_words
    obtain ⟨again_here_n, hx, hm⟩ := bind_some hm
    refine q_set (em_eq (m' := ((m_read_picture text).bind okG)) (em_Xcall (eag_cons (em_varf (i := 2) fl_str rfl r_text) eag_nil)) rfl) hx k fun v_again_here F H e k r_again_here => ?_
    obtain ⟨again_here, ez_⟩ : ∃ z, z = again_here_n := ⟨_, rfl⟩; subst ez_
    show (_ : TS) _ [some v_picture, some v_words, some v_text, some v_again_here, none, none] _
    have r_picture := (rO4 (He.ga K "Picture") "dimension" "words" "seen_places" "hidden_places" rInt (rDic rStr) (rLst (rTup K rInt)) (rLst (rTup K rInt))).up e r_picture
    have r_words := (rLst rStr).up e r_words
    obtain ⟨b, hb, hm⟩ := bind_some hm
    refine q_ife (et_or (et_not (et_test (em_op (vo_eqO objP_O4) (em_var (i := 3) rfl r_again_here) (em_var (i := 0) rfl r_picture)))) (et_or (et_test (em_op vo_neS (em_Pcall1t (em_var (i := 3) rfl r_again_here)) (em_varf (i := 2) fl_str rfl r_text))) (et_test (em_op vo_neI (em_cb (vc_lenO objP_O4) (em_var (i := 3) rfl r_again_here)) (em_cb (vc_lenO objP_O4) (em_var (i := 0) rfl r_picture)))))) hb k (fun eb F H e k => ?_) (fun eb F H e k => ?_)
    ·
      subst eb
      have hm := hT hm
      have r_picture := (rO4 (He.ga K "Picture") "dimension" "words" "seen_places" "hidden_places" rInt (rDic rStr) (rLst (rTup K rInt)) (rLst (rTup K rInt))).up e r_picture
      have r_words := (rLst rStr).up e r_words
      have r_again_here := (rO4 (He.ga K "Picture") "dimension" "words" "seen_places" "hidden_places" rInt (rDic rStr) (rLst (rTup K rInt)) (rLst (rTup K rInt))).up e r_again_here
      obtain ⟨rv, hv, hm⟩ := bind_some hm
      have hm := Option.some.inj hm
      cases hm
      exact a_ret (em_non (ra := (rO4 (He.ga K "Picture") "dimension" "words" "seen_places" "hidden_places" rInt (rDic rStr) (rLst (rTup K rInt)) (rLst (rTup K rInt))))) hv k fun v F H e k r => hQ v F H k.dropAll r
    ·
      subst eb
      have hm := hF hm
      have r_picture := (rO4 (He.ga K "Picture") "dimension" "words" "seen_places" "hidden_places" rInt (rDic rStr) (rLst (rTup K rInt)) (rLst (rTup K rInt))).up e r_picture
      have r_words := (rLst rStr).up e r_words
      have r_again_here := (rO4 (He.ga K "Picture") "dimension" "words" "seen_places" "hidden_places" rInt (rDic rStr) (rLst (rTup K rInt)) (rLst (rTup K rInt))).up e r_again_here
      obtain ⟨b, hb, hm⟩ := bind_some hm
      refine q_ife (et_test (em_op (vo_neD (dq_lst (dq_tup dq_int)) (Nat.le_of_ble_eq_true rfl)) ((ef_lc (K := K) (t := (fun (word : PySem.Str) => (some (!decide (word = ("hidden" : PySem.Str)))))) (f := fun (word : PySem.Str) => ((m_read_place word).bind okG)) (S := (fun d F1 σ2 => ∃ v_word, σ2 = [some v_picture, some v_words, some v_text, some v_again_here, none, some v_word] ∧ rStr.r F1 v_word d)) (ei_list ((ef_slice ((em_var (i := 1) rfl r_words)).el (eo_some em_int) eo_none)).em) (gt_name (fun _ => rfl)) (fun d F1 σ2 hs => by obtain ⟨_, rfl, _⟩ := hs; rfl) (by intro word F1 σ2 e1 hs; obtain ⟨v_word, rfl, r_word⟩ := hs; have r_picture := (rO4 (He.ga K "Picture") "dimension" "words" "seen_places" "hidden_places" rInt (rDic rStr) (rLst (rTup K rInt)) (rLst (rTup K rInt))).up e1 r_picture; have r_words := (rLst rStr).up e1 r_words; have r_again_here := (rO4 (He.ga K "Picture") "dimension" "words" "seen_places" "hidden_places" rInt (rDic rStr) (rLst (rTup K rInt)) (rLst (rTup K rInt))).up e1 r_again_here; exact (et_test (em_op vo_neS (em_varf (i := 5) fl_str rfl r_word) em_str))) (by intro word F1 σ2 e1 hs; obtain ⟨v_word, rfl, r_word⟩ := hs; have r_picture := (rO4 (He.ga K "Picture") "dimension" "words" "seen_places" "hidden_places" rInt (rDic rStr) (rLst (rTup K rInt)) (rLst (rTup K rInt))).up e1 r_picture; have r_words := (rLst rStr).up e1 r_words; have r_again_here := (rO4 (He.ga K "Picture") "dimension" "words" "seen_places" "hidden_places" rInt (rDic rStr) (rLst (rTup K rInt)) (rLst (rTup K rInt))).up e1 r_again_here; exact (em_eq (m' := ((m_read_place word).bind okG)) (em_Xcall (eag_cons (em_varf (i := 5) fl_str rfl r_word) eag_nil)) rfl)))).em ((ef_cat ((em_propF objP_O4 (em_var (i := 0) rfl r_picture))).em.es ((em_propF objP_O4 (em_var (i := 0) rfl r_picture))).em.es)).em)) hb k (fun eb F H e k => ?_) (fun eb F H e k => ?_)
      ·
        subst eb
        have hm := hT hm
        have r_picture := (rO4 (He.ga K "Picture") "dimension" "words" "seen_places" "hidden_places" rInt (rDic rStr) (rLst (rTup K rInt)) (rLst (rTup K rInt))).up e r_picture
        have r_words := (rLst rStr).up e r_words
        have r_again_here := (rO4 (He.ga K "Picture") "dimension" "words" "seen_places" "hidden_places" rInt (rDic rStr) (rLst (rTup K rInt)) (rLst (rTup K rInt))).up e r_again_here
        obtain ⟨rv, hv, hm⟩ := bind_some hm
        have hm := Option.some.inj hm
        cases hm
        exact a_ret (em_non (ra := (rO4 (He.ga K "Picture") "dimension" "words" "seen_places" "hidden_places" rInt (rDic rStr) (rLst (rTup K rInt)) (rLst (rTup K rInt))))) hv k fun v F H e k r => hQ v F H k.dropAll r
      ·
        subst eb
        have hm := hF hm
        have r_picture := (rO4 (He.ga K "Picture") "dimension" "words" "seen_places" "hidden_places" rInt (rDic rStr) (rLst (rTup K rInt)) (rLst (rTup K rInt))).up e r_picture
        have r_words := (rLst rStr).up e r_words
        have r_again_here := (rO4 (He.ga K "Picture") "dimension" "words" "seen_places" "hidden_places" rInt (rDic rStr) (rLst (rTup K rInt)) (rLst (rTup K rInt))).up e r_again_here
        obtain ⟨rv, hv, hm⟩ := bind_some hm
        have hm := Option.some.inj hm
        cases hm
        exact a_ret (em_opt (nn_obj objP_O4) (em_var (i := 3) rfl r_again_here)) hv k fun v F H e k r => hQ v F H k.dropAll r
abbrev s_joined : Stmt := topS 55
abbrev N_joined : List PySem.Str := ["_law_one", "_law_other", "_law_answer", "e"]
theorem sc_joined : FnScope N_joined ["_law_one", "_law_other"] (defScope s_joined) := ⟨rfl, rfl, rfl, by decide +kernel, rfl, by decide +kernel, by decide +kernel⟩
def sp_joined (K : PySem.W.Frag) : Sp := (Psp2 (rO4 (He.ga K "Picture") "dimension" "words" "seen_places" "hidden_places" rInt (rDic rStr) (rLst (rTup K rInt)) (rLst (rTup K rInt))) (rO4 (He.ga K "Picture") "dimension" "words" "seen_places" "hidden_places" rInt (rDic rStr) (rLst (rTup K rInt)) (rLst (rTup K rInt))) (rAlt rStr (rTup K rInt)) m_joined)
theorem ok_joined {P : Program} {w : World} {K : PySem.W.Frag} {mg : PySem.Str → Option Value} {base : Heap} (T : Txt mg) (L : ClsF K mg) (E_ : ErrF K mg erL) (C_Picture___or__ : CalOX P w K mg base 3 (He.ga K "Picture") "__or__" ["self", "other"] (sp_Picture___or__ K) (fun _ => True)) (C_show_picture : Cal P w K mg base 3 "show_picture" ["picture"] (sp_show_picture K) (fun _ => True)) {f : Addr} {fd : FuncData} (Fn : FnP K "_law_joined" s_joined f fd) : FnOk P w K mg base CX0 5 f fd ["_law_one", "_law_other"] (sp_joined K) := by
  obtain ⟨f_Picture___or__, fd_Picture___or__, G_Picture___or__, D_Picture___or__, b_Picture___or__, _⟩ := C_Picture___or__.ex
  obtain ⟨f_show_picture, fd_show_picture, G_show_picture, g_show_picture, kp_show_picture, b_show_picture, _⟩ := C_show_picture.ex
  refine Fn.ok sc_joined (fun vs H Q E h => Psp2_len h) (fun cdv A outer s H vs Q E hr h => ?_)
  obtain ⟨F, v_one, v_other, one, other, res, rfl, ex, r_one, r_other, hm, hQ⟩ := h
  have k := Cov.init ex
  generalize hc : Act.mk H F [] = c at k hQ
  unfold m_joined at hm
  refine ⟨_, PSs.nox (pss_cons (ps_set (i := 2) sc_joined.nd rfl (Or.inl rfl) pe_non) (Evl.pss_cut (ps_try_T (i := 3) rfl rfl rfl sc_joined.nd rfl (by rfl) ⟨by rfl, by decide, .inl (E_.glo _ er_Conflict)⟩ takes0 (fun W pn xe tkW _ => (pss_one (ps_set (i := 2) sc_joined.nd rfl (Or.inl rfl) (pe_binS (nm := "__or__") (by rfl) L.in_Picture D_Picture___or__ G_Picture___or__ (hr.mono (by decide)) b_Picture___or__ (fun σ => passAt tkW σ) (pv 0) (pv 1))))) (fun a_ pn => (pss_one (ps_set (i := 2) sc_joined.nd rfl (Or.inl rfl) (pe_xfT K rfl (pv 3)))))) (pss_cons (ps_if (pt_val (pe_callB (call_isiK2 K rfl) (by rfl) T.b_isinstance (by decide +kernel) (pa_cons (pv 2) (pa_cons (pe_glob (v := .ref (He.ga K "Picture")) (by rfl) L.g_Picture rfl) pa_nil)))) (pss_one (ps_ret (pe_call G_show_picture (hr.mono (by decide)) (by rfl) g_show_picture kp_show_picture b_show_picture .nil pass0 (pa_cons (pv 2) pa_nil)))) pss_nil) (pss_one (ps_ret (pv 2)))))), ?_⟩
  show (_ : TS) _ [some v_one, some v_other, none, none] _
  obtain ⟨answer_n, hx, hm⟩ := bind_some hm
  refine q_set (em_c (ra := rNon) fun _ => rfl) hx k fun v_answer F H e k r_answer => ?_
  obtain ⟨answer, ez_⟩ : ∃ z, z = answer_n := ⟨_, rfl⟩; subst ez_
  show (_ : TS) _ [some v_one, some v_other, some v_answer, none] _
  have r_one := (rO4 (He.ga K "Picture") "dimension" "words" "seen_places" "hidden_places" rInt (rDic rStr) (rLst (rTup K rInt)) (rLst (rTup K rInt))).up e r_one
  have r_other := (rO4 (He.ga K "Picture") "dimension" "words" "seen_places" "hidden_places" rInt (rDic rStr) (rLst (rTup K rInt)) (rLst (rTup K rInt))).up e r_other
  obtain ⟨answer_j, hj, hm⟩ := bind_some hm
  refine q_cut (Mid := fun σ1 H1 => ∃ F1 v_answer, σ1 = [some v_one, some v_other, some v_answer, none] ∧ Ex F F1 ∧ Cov c F1 [] H1 ∧ (rAlt (rO4 (He.ga K "Picture") "dimension" "words" "seen_places" "hidden_places" rInt (rDic rStr) (rLst (rTup K rInt)) (rLst (rTup K rInt))) (rTup K rInt)).r F1 v_answer answer_j) ?_ ?_
  ·
    obtain ⟨r9_, hb_, hj2⟩ := bind_some hj
    have hm := hb_
    have eJ21 : Ex F F := Evl.Ex.refl F
    show (_ : TS) _ [some v_one, some v_other, some v_answer, none] _
    obtain ⟨rx, hx, hm⟩ := bind_some hm
    refine a_setX (ex_mapR (ra := (rO4 (He.ga K "Picture") "dimension" "words" "seen_places" "hidden_places" rInt (rDic rStr) (rLst (rTup K rInt)) (rLst (rTup K rInt)))) (rb := (rAlt (rO4 (He.ga K "Picture") "dimension" "words" "seen_places" "hidden_places" rInt (rDic rStr) (rLst (rTup K rInt)) (rLst (rTup K rInt))) (rTup K rInt))) (g := Sum.inl) (fun _ _ _ r => r) (ex_eq (m' := (m_Picture___or__ one other)) (ex_bin objP_O4 (em_var (i := 0) rfl r_one) (em_var (i := 1) rfl r_other)) (by exact rfl))) hx k (fun er ee cls dd F H e k rE => ?_) (fun answer_n ex_ v_answer F H e k r_answer => ?_)
    ·
      subst ee
      try dsimp only at hm
      have r_one := (rO4 (He.ga K "Picture") "dimension" "words" "seen_places" "hidden_places" rInt (rDic rStr) (rLst (rTup K rInt)) (rLst (rTup K rInt))).up e r_one
      have r_other := (rO4 (He.ga K "Picture") "dimension" "words" "seen_places" "hidden_places" rInt (rDic rStr) (rLst (rTup K rInt)) (rLst (rTup K rInt))).up e r_other
      have eJ21 := eJ21.trans e
      have hm := Option.some.inj hm
      subst hm
      try dsimp only at hj2
      obtain ⟨hL_, dd_, fs_, pv_, rfl, rfl, hF_, hl_, hp_⟩ := rE
      refine ⟨subE _ "Conflict", E_.exm _ hL_ _ er_Conflict, fun eb_ a_ ha_ => ?_, fun eb_ => ?_⟩
      ·
        rw [if_pos eb_] at hj2
        obtain ⟨F, e, k, r_e_⟩ := k.caught ha_ hL_ hF_ hl_ hp_
        have r_one := (rO4 (He.ga K "Picture") "dimension" "words" "seen_places" "hidden_places" rInt (rDic rStr) (rLst (rTup K rInt)) (rLst (rTup K rInt))).up e r_one
        have r_other := (rO4 (He.ga K "Picture") "dimension" "words" "seen_places" "hidden_places" rInt (rDic rStr) (rLst (rTup K rInt)) (rLst (rTup K rInt))).up e r_other
        have eJ21 := eJ21.trans e
        have hm := hj2
        obtain ⟨e_, ez_⟩ : ∃ z, z = er := ⟨_, rfl⟩; subst ez_
        show (_ : TS) _ [some v_one, some v_other, some v_answer, some (.ref a_)] _
        obtain ⟨answer_n, hx, hm⟩ := bind_some hm
        refine a_set (em_inr (ra := (rO4 (He.ga K "Picture") "dimension" "words" "seen_places" "hidden_places" rInt (rDic rStr) (rLst (rTup K rInt)) (rLst (rTup K rInt)))) (em_payT (em_val E_ (em_var (i := 3) rfl r_e_)))) hx k fun v_answer F H e k r_answer => ?_
        obtain ⟨answer, ez_⟩ : ∃ z, z = answer_n := ⟨_, rfl⟩; subst ez_
        have r_one := (rO4 (He.ga K "Picture") "dimension" "words" "seen_places" "hidden_places" rInt (rDic rStr) (rLst (rTup K rInt)) (rLst (rTup K rInt))).up e r_one
        have r_other := (rO4 (He.ga K "Picture") "dimension" "words" "seen_places" "hidden_places" rInt (rDic rStr) (rLst (rTup K rInt)) (rLst (rTup K rInt))).up e r_other
        have r_e_ := (rExc K erL).up e r_e_
        have eJ21 := eJ21.trans e
        cases hm
        exact ⟨F, v_answer, rfl, eJ21, k, r_answer⟩
      ·
        rw [if_neg (by rw [eb_]; decide)] at hj2
        cases hj2
    subst ex_
    try dsimp only at hm
    obtain ⟨answer, ez_⟩ : ∃ z, z = answer_n := ⟨_, rfl⟩; subst ez_
    have r_one := (rO4 (He.ga K "Picture") "dimension" "words" "seen_places" "hidden_places" rInt (rDic rStr) (rLst (rTup K rInt)) (rLst (rTup K rInt))).up e r_one
    have r_other := (rO4 (He.ga K "Picture") "dimension" "words" "seen_places" "hidden_places" rInt (rDic rStr) (rLst (rTup K rInt)) (rLst (rTup K rInt))).up e r_other
    have eJ21 := eJ21.trans e
    have hm := Option.some.inj hm
    subst hm
    try dsimp only at hj2
    cases hj2
    exact ⟨F, v_answer, rfl, eJ21, k, r_answer⟩
  rintro σ1 H ⟨F, v_answer, rfl, e, k, r_answer⟩
  clear hj
  obtain ⟨answer, ez_⟩ : ∃ z, z = answer_j := ⟨_, rfl⟩; subst ez_
  have r_one := (rO4 (He.ga K "Picture") "dimension" "words" "seen_places" "hidden_places" rInt (rDic rStr) (rLst (rTup K rInt)) (rLst (rTup K rInt))).up e r_one
  have r_other := (rO4 (He.ga K "Picture") "dimension" "words" "seen_places" "hidden_places" rInt (rDic rStr) (rLst (rTup K rInt)) (rLst (rTup K rInt))).up e r_other
  obtain ⟨b, hb, hm⟩ := bind_some hm
  refine q_ife (et_B (em_isC (is_alt (is_objC objP_O4 L.in_Picture) (is_tupC L.kit_Picture)) (em_var (i := 2) rfl r_answer))) hb k (fun eb F H e k => ?_) (fun eb F H e k => ?_)
  ·
    subst eb
    have hm := hT hm
    have r_one := (rO4 (He.ga K "Picture") "dimension" "words" "seen_places" "hidden_places" rInt (rDic rStr) (rLst (rTup K rInt)) (rLst (rTup K rInt))).up e r_one
    have r_other := (rO4 (He.ga K "Picture") "dimension" "words" "seen_places" "hidden_places" rInt (rDic rStr) (rLst (rTup K rInt)) (rLst (rTup K rInt))).up e r_other
    have r_answer := (rAlt (rO4 (He.ga K "Picture") "dimension" "words" "seen_places" "hidden_places" rInt (rDic rStr) (rLst (rTup K rInt)) (rLst (rTup K rInt))) (rTup K rInt)).up e r_answer
    obtain ⟨rv, hv, hm⟩ := bind_some hm
    have hm := Option.some.inj hm
    cases hm
    exact a_ret (em_inl (rb := (rTup K rInt)) (em_Pcall1 (em_toL (em_var (i := 2) rfl r_answer)))) hv k fun v F H e k r => hQ v F H k.dropAll r
  ·
    subst eb
    have hm := hF hm
    have r_one := (rO4 (He.ga K "Picture") "dimension" "words" "seen_places" "hidden_places" rInt (rDic rStr) (rLst (rTup K rInt)) (rLst (rTup K rInt))).up e r_one
    have r_other := (rO4 (He.ga K "Picture") "dimension" "words" "seen_places" "hidden_places" rInt (rDic rStr) (rLst (rTup K rInt)) (rLst (rTup K rInt))).up e r_other
    have r_answer := (rAlt (rO4 (He.ga K "Picture") "dimension" "words" "seen_places" "hidden_places" rInt (rDic rStr) (rLst (rTup K rInt)) (rLst (rTup K rInt))) (rTup K rInt)).up e r_answer
    obtain ⟨rv, hv, hm⟩ := bind_some hm
    have hm := Option.some.inj hm
    cases hm
    exact a_ret (em_inr (ra := rStr) (em_toR (em_var (i := 2) rfl r_answer))) hv k fun v F H e k r => hQ v F H k.dropAll r
abbrev s_by_door : Stmt := topS 56
abbrev N_by_door : List PySem.Str := ["_law_door", "_law_text"]
theorem sc_by_door : FnScope N_by_door ["_law_door", "_law_text"] (defScope s_by_door) := ⟨rfl, rfl, rfl, by decide +kernel, rfl, by decide +kernel, by decide +kernel⟩
def sp_by_door (K : PySem.W.Frag) : Sp := (Xsp K erL (gpC rInt (gpC rStr gpN)) (rAlt (rTup K rInt) (rAlt (rO4 (He.ga K "Picture") "dimension" "words" "seen_places" "hidden_places" rInt (rDic rStr) (rLst (rTup K rInt)) (rLst (rTup K rInt))) (rO2 (He.ga K "Line") "origin" "stride" (rTup K rInt) (rTup K rInt)))) (fun d => m_by_door d.1 d.2.1))
theorem ok_by_door {P : Program} {w : World} {K : PySem.W.Frag} {mg : PySem.Str → Option Value} {base : Heap} (T : Txt mg) (L : ClsF K mg) (E_ : ErrF K mg erL) (C_read_place : CalX P w K mg base 3 "read_place" ["text"] (sp_read_place K) (fun _ => True)) (C_read_picture : CalX P w K mg base 3 "read_picture" ["text"] (sp_read_picture K) (fun _ => True)) (C_read_line : CalX P w K mg base 5 "read_line" ["text"] (sp_read_line K) (fun _ => True)) {f : Addr} {fd : FuncData} (Fn : FnP K "_law_by_door" s_by_door f fd) : FnOk P w K mg base (L2.CX P w) 6 f fd ["_law_door", "_law_text"] (sp_by_door K) := by
  obtain ⟨f_read_place, fd_read_place, G_read_place, g_read_place, kp_read_place, b_read_place, _⟩ := C_read_place.ex
  obtain ⟨f_read_picture, fd_read_picture, G_read_picture, g_read_picture, kp_read_picture, b_read_picture, _⟩ := C_read_picture.ex
  obtain ⟨f_read_line, fd_read_line, G_read_line, g_read_line, kp_read_line, b_read_line, _⟩ := C_read_line.ex
  refine Fn.ok sc_by_door (fun vs H Q E h => Xsp_len h) (fun cdv A outer s H vs Q E hr h => ?_)
  obtain ⟨F, ⟨door, text, ⟨⟩⟩, res, ex, ⟨v_door, w0_, rfl, r_door, v_text, w1_, rfl, r_text, rfl⟩, hm, hQ, hE⟩ := h
  have k := Cov.init ex
  have r_door : rInt.r F v_door door := r_door
  have r_text : rStr.r F v_text text := r_text
  have hm : m_by_door door text = some res := hm
  generalize hc : Act.mk H F [] = c at k hQ hE
  unfold m_by_door at hm
  refine ⟨_, (pss_cons (ps_if (pt_cmpR op_eq (pv 0) pe_int (nomark _)) (pss_one (ps_ret (pe_callS G_read_place (hr.mono (by decide)) (by rfl) g_read_place kp_read_place b_read_place (fun σ => passAt (takes_of rfl rfl rfl rfl) σ) (pa_cons (pv 1) pa_nil)))) pss_nil) (pss_cons (ps_if (pt_cmpR op_eq (pv 0) pe_int (nomark _)) (pss_one (ps_ret (pe_callS G_read_picture (hr.mono (by decide)) (by rfl) g_read_picture kp_read_picture b_read_picture (fun σ => passAt (takes_of rfl rfl rfl rfl) σ) (pa_cons (pv 1) pa_nil)))) pss_nil) (pss_one (ps_ret (pe_callS G_read_line (hr.mono (by decide)) (by rfl) g_read_line kp_read_line b_read_line (fun σ => passAt (takes_of rfl rfl rfl rfl) σ) (pa_cons (pv 1) pa_nil)))))), ?_⟩
  show (_ : TS) _ [some v_door, some v_text] _
  obtain ⟨b, hb, hm⟩ := bind_some hm
  refine q_ife (et_test (em_op vo_eqI (em_varf (i := 0) fl_int rfl r_door) em_int)) hb k (fun eb F H e k => ?_) (fun eb F H e k => ?_)
  ·
    subst eb
    have hm := hT hm
    obtain ⟨rx, hx, hm⟩ := bind_some hm
    have hm := Option.some.inj hm
    subst hm
    exact a_retX (ex_mapR (ra := (rTup K rInt)) (rb := (rAlt (rTup K rInt) (rAlt (rO4 (He.ga K "Picture") "dimension" "words" "seen_places" "hidden_places" rInt (rDic rStr) (rLst (rTup K rInt)) (rLst (rTup K rInt))) (rO2 (He.ga K "Line") "origin" "stride" (rTup K rInt) (rTup K rInt))))) (g := Sum.inl) (fun _ _ _ r => r) (ex_eq (m' := (m_read_place text)) (ex_call (eag_cons (em_varf (i := 1) fl_str rfl r_text) eag_nil)) (by exact rfl))) hx k (fun er ee cls dd F H e k rE => hE er ee cls dd F H k.dropAll rE) (fun x ex_ v F H e k r => hQ x ex_ v F H k.dropAll r)
  ·
    subst eb
    have hm := hF hm
    obtain ⟨b, hb, hm⟩ := bind_some hm
    refine q_ife (et_test (em_op vo_eqI (em_varf (i := 0) fl_int rfl r_door) em_int)) hb k (fun eb F H e k => ?_) (fun eb F H e k => ?_)
    ·
      subst eb
      have hm := hT hm
      obtain ⟨rx, hx, hm⟩ := bind_some hm
      have hm := Option.some.inj hm
      subst hm
      exact a_retX (emx_map (ra := (rAlt (rO4 (He.ga K "Picture") "dimension" "words" "seen_places" "hidden_places" rInt (rDic rStr) (rLst (rTup K rInt)) (rLst (rTup K rInt))) (rO2 (He.ga K "Line") "origin" "stride" (rTup K rInt) (rTup K rInt)))) (rb := (rAlt (rTup K rInt) (rAlt (rO4 (He.ga K "Picture") "dimension" "words" "seen_places" "hidden_places" rInt (rDic rStr) (rLst (rTup K rInt)) (rLst (rTup K rInt))) (rO2 (He.ga K "Line") "origin" "stride" (rTup K rInt) (rTup K rInt))))) (f := Sum.inr) (fun _ _ _ r => r) (emx_map (ra := (rO4 (He.ga K "Picture") "dimension" "words" "seen_places" "hidden_places" rInt (rDic rStr) (rLst (rTup K rInt)) (rLst (rTup K rInt)))) (rb := (rAlt (rO4 (He.ga K "Picture") "dimension" "words" "seen_places" "hidden_places" rInt (rDic rStr) (rLst (rTup K rInt)) (rLst (rTup K rInt))) (rO2 (He.ga K "Line") "origin" "stride" (rTup K rInt) (rTup K rInt)))) (f := Sum.inl) (fun _ _ _ r => r) (ex_eq (m' := (m_read_picture text)) (ex_call (eag_cons (em_varf (i := 1) fl_str rfl r_text) eag_nil)) (by exact rfl)))) hx k (fun er ee cls dd F H e k rE => hE er ee cls dd F H k.dropAll rE) (fun x ex_ v F H e k r => hQ x ex_ v F H k.dropAll r)
    ·
      subst eb
      have hm := hF hm
      obtain ⟨rx, hx, hm⟩ := bind_some hm
      have hm := Option.some.inj hm
      subst hm
      exact a_retX (emx_map (ra := (rAlt (rO4 (He.ga K "Picture") "dimension" "words" "seen_places" "hidden_places" rInt (rDic rStr) (rLst (rTup K rInt)) (rLst (rTup K rInt))) (rO2 (He.ga K "Line") "origin" "stride" (rTup K rInt) (rTup K rInt)))) (rb := (rAlt (rTup K rInt) (rAlt (rO4 (He.ga K "Picture") "dimension" "words" "seen_places" "hidden_places" rInt (rDic rStr) (rLst (rTup K rInt)) (rLst (rTup K rInt))) (rO2 (He.ga K "Line") "origin" "stride" (rTup K rInt) (rTup K rInt))))) (f := Sum.inr) (fun _ _ _ r => r) (emx_map (ra := (rO2 (He.ga K "Line") "origin" "stride" (rTup K rInt) (rTup K rInt))) (rb := (rAlt (rO4 (He.ga K "Picture") "dimension" "words" "seen_places" "hidden_places" rInt (rDic rStr) (rLst (rTup K rInt)) (rLst (rTup K rInt))) (rO2 (He.ga K "Line") "origin" "stride" (rTup K rInt) (rTup K rInt)))) (f := Sum.inr) (fun _ _ _ r => r) (ex_eq (m' := (m_read_line text)) (ex_call (eag_cons (em_varf (i := 1) fl_str rfl r_text) eag_nil)) (by exact rfl)))) hx k (fun er ee cls dd F H e k rE => hE er ee cls dd F H k.dropAll rE) (fun x ex_ v F H e k r => hQ x ex_ v F H k.dropAll r)
abbrev s_unread : Stmt := topS 57
abbrev N_unread : List PySem.Str := ["_law_door", "_law_text", "_law_caught", "e"]
theorem sc_unread : FnScope N_unread ["_law_door", "_law_text"] (defScope s_unread) := ⟨rfl, rfl, rfl, by decide +kernel, rfl, by decide +kernel, by decide +kernel⟩
def sp_unread (K : PySem.W.Frag) : Sp := (Psp2 rInt rStr rBool m_unread)
theorem ok_unread {P : Program} {w : World} {K : PySem.W.Frag} {mg : PySem.Str → Option Value} {base : Heap} (T : Txt mg) (L : ClsF K mg) (E_ : ErrF K mg erL) (C_by_door : CalX P w K mg base 6 "_law_by_door" ["_law_door", "_law_text"] (sp_by_door K) (fun _ => True)) {f : Addr} {fd : FuncData} (Fn : FnP K "_law_unread" s_unread f fd) : FnOk P w K mg base CX0 7 f fd ["_law_door", "_law_text"] (sp_unread K) := by
  obtain ⟨f_by_door, fd_by_door, G_by_door, g_by_door, kp_by_door, b_by_door, _⟩ := C_by_door.ex
  refine Fn.ok sc_unread (fun vs H Q E h => Psp2_len h) (fun cdv A outer s H vs Q E hr h => ?_)
  obtain ⟨F, v_door, v_text, door, text, res, rfl, ex, r_door, r_text, hm, hQ⟩ := h
  have k := Cov.init ex
  generalize hc : Act.mk H F [] = c at k hQ
  unfold m_unread at hm
  refine ⟨_, PSs.nox (pss_cons (ps_set (i := 2) sc_unread.nd rfl (Or.inl rfl) pe_non) (Evl.pss_cut (ps_try_T (i := 3) rfl rfl rfl sc_unread.nd rfl (by rfl) ⟨by rfl, by decide, .inl (E_.glo _ er_Unreadable)⟩ takes0 (fun W pn xe tkW _ => (pss_one (ps_expr (pe_callS G_by_door (hr.mono (by decide)) (by rfl) g_by_door kp_by_door b_by_door (fun σ => passAt tkW σ) (pa_cons (pv 0) (pa_cons (pv 1) pa_nil)))))) (fun a_ pn => (pss_one (ps_set (i := 2) sc_unread.nd rfl (Or.inl rfl) (pv 3))))) (pss_one (ps_ret (pe_and (pe_cmpR op_notN (pv 2) pe_non (nomark _)) (pe_one (pe_cmpR op_eq (pe_xfT K rfl (pv 2)) (pv 1) (nomark _)))))))), ?_⟩
  show (_ : TS) _ [some v_door, some v_text, none, none] _
  obtain ⟨caught_n, hx, hm⟩ := bind_some hm
  refine q_set (em_non (ra := (rExc K erL))) hx k fun v_caught F H e k r_caught => ?_
  obtain ⟨caught, ez_⟩ : ∃ z, z = caught_n := ⟨_, rfl⟩; subst ez_
  show (_ : TS) _ [some v_door, some v_text, some v_caught, none] _
  obtain ⟨caught_j, hj, hm⟩ := bind_some hm
  refine q_cut (Mid := fun σ1 H1 => ∃ F1 v_caught, σ1 = [some v_door, some v_text, some v_caught, none] ∧ Ex F F1 ∧ Cov c F1 [] H1 ∧ (rOpt (rExc K erL)).r F1 v_caught caught_j) ?_ ?_
  ·
    obtain ⟨r9_, hb_, hj2⟩ := bind_some hj
    have hm := hb_
    have eJ22 : Ex F F := Evl.Ex.refl F
    show (_ : TS) _ [some v_door, some v_text, some v_caught, none] _
    obtain ⟨rx, hx, hm⟩ := bind_some hm
    refine a_dropX (ex_eq (m' := (m_by_door door text)) (ex_call (eag_cons (em_varf (i := 0) fl_int rfl r_door) (eag_cons (em_varf (i := 1) fl_str rfl r_text) eag_nil))) (by exact rfl)) hx k (fun er ee cls dd F H e k rE => ?_) (fun _ ex_ F H e k => ?_)
    ·
      subst ee
      try dsimp only at hm
      have r_caught := (rOpt (rExc K erL)).up e r_caught
      have eJ22 := eJ22.trans e
      have hm := Option.some.inj hm
      subst hm
      try dsimp only at hj2
      obtain ⟨hL_, dd_, fs_, pv_, rfl, rfl, hF_, hl_, hp_⟩ := rE
      refine ⟨subE _ "Unreadable", E_.exm _ hL_ _ er_Unreadable, fun eb_ a_ ha_ => ?_, fun eb_ => ?_⟩
      ·
        rw [if_pos eb_] at hj2
        obtain ⟨F, e, k, r_e_⟩ := k.caught ha_ hL_ hF_ hl_ hp_
        have r_caught := (rOpt (rExc K erL)).up e r_caught
        have eJ22 := eJ22.trans e
        have hm := hj2
        obtain ⟨e_, ez_⟩ : ∃ z, z = er := ⟨_, rfl⟩; subst ez_
        show (_ : TS) _ [some v_door, some v_text, some v_caught, some (.ref a_)] _
        obtain ⟨caught_n, hx, hm⟩ := bind_some hm
        refine a_set (em_opt nn_exc (em_var (i := 3) rfl r_e_)) hx k fun v_caught F H e k r_caught => ?_
        obtain ⟨caught, ez_⟩ : ∃ z, z = caught_n := ⟨_, rfl⟩; subst ez_
        have r_e_ := (rExc K erL).up e r_e_
        have eJ22 := eJ22.trans e
        cases hm
        exact ⟨F, v_caught, rfl, eJ22, k, r_caught⟩
      ·
        rw [if_neg (by rw [eb_]; decide)] at hj2
        cases hj2
    subst ex_
    try dsimp only at hm
    have r_caught := (rOpt (rExc K erL)).up e r_caught
    have eJ22 := eJ22.trans e
    have hm := Option.some.inj hm
    subst hm
    try dsimp only at hj2
    cases hj2
    exact ⟨F, v_caught, rfl, eJ22, k, r_caught⟩
  rintro σ1 H ⟨F, v_caught, rfl, e, k, r_caught⟩
  clear hj
  obtain ⟨caught, ez_⟩ : ∃ z, z = caught_j := ⟨_, rfl⟩; subst ez_
  obtain ⟨rv, hv, hm⟩ := bind_some hm
  have hm := Option.some.inj hm
  cases hm
  exact a_ret (em_andV (em_notN (em_var (i := 2) rfl r_caught)) (em_op vo_eqS (em_payS (em_val E_ (em_unO (em_var (i := 2) rfl r_caught)))) (em_varf (i := 1) fl_str rfl r_text))) hv k fun v F H e k r => hQ v F H k.dropAll r
abbrev s_pair_right : Stmt := topS 58
abbrev N_pair_right : List PySem.Str := ["_law_one", "_law_other", "_law_grid", "_law_vector", "_law_first", "_law_second"]
theorem sc_pair_right : FnScope N_pair_right ["_law_one", "_law_other", "_law_grid", "_law_vector"] (defScope s_pair_right) := ⟨rfl, rfl, rfl, by decide +kernel, rfl, by decide +kernel, by decide +kernel⟩
def sp_pair_right (K : PySem.W.Frag) : Sp := (Psp4 (rO4 (He.ga K "Picture") "dimension" "words" "seen_places" "hidden_places" rInt (rDic rStr) (rLst (rTup K rInt)) (rLst (rTup K rInt))) (rO4 (He.ga K "Picture") "dimension" "words" "seen_places" "hidden_places" rInt (rDic rStr) (rLst (rTup K rInt)) (rLst (rTup K rInt))) (rLst (rLst rInt)) (rTup K rInt) rBool m_pair_right)
theorem ok_pair_right {P : Program} {w : World} {K : PySem.W.Frag} {mg : PySem.Str → Option Value} {base : Heap} (T : Txt mg) (L : ClsF K mg) (E_ : ErrF K mg erL) (C_Picture___sub__ : CalO P w K mg base 3 (He.ga K "Picture") "__sub__" ["self", "other"] (sp_Picture___sub__ K) (fun _ => True)) (C_Picture___eq__ : CalO P w K mg base 1 (He.ga K "Picture") "__eq__" ["self", "other"] (sp_Picture___eq__ K) (fun _ => True)) (C_show_picture : Cal P w K mg base 3 "show_picture" ["picture"] (sp_show_picture K) (fun _ => True)) (C_Picture_shifted : CalM P w K mg base 3 (He.ga K "Picture") "shifted" ["self", "shift"] (sp_Picture_shifted K) (fun _ => True)) (C_Picture_mapped : CalM P w K mg base 3 (He.ga K "Picture") "mapped" ["self", "rows"] (sp_Picture_mapped K) (fun _ => True)) (C_Picture_least : CalM P w K mg base 4 (He.ga K "Picture") "least" ["self"] (sp_Picture_least K) (fun _ => True)) (C_again : Cal P w K mg base 4 "_law_again" ["_law_picture"] (sp_again K) (fun _ => True)) (C_joined : Cal P w K mg base 5 "_law_joined" ["_law_one", "_law_other"] (sp_joined K) (fun _ => True)) {f : Addr} {fd : FuncData} (Fn : FnP K "_law_pair_right" s_pair_right f fd) : FnOk P w K mg base CX0 6 f fd ["_law_one", "_law_other", "_law_grid", "_law_vector"] (sp_pair_right K) := by
  obtain ⟨f_Picture___sub__, fd_Picture___sub__, G_Picture___sub__, D_Picture___sub__, b_Picture___sub__, _⟩ := C_Picture___sub__.ex
  obtain ⟨f_Picture___eq__, fd_Picture___eq__, G_Picture___eq__, D_Picture___eq__, b_Picture___eq__, _⟩ := C_Picture___eq__.ex
  obtain ⟨f_show_picture, fd_show_picture, G_show_picture, g_show_picture, kp_show_picture, b_show_picture, _⟩ := C_show_picture.ex
  obtain ⟨f_Picture_shifted, fd_Picture_shifted, G_Picture_shifted, M_Picture_shifted, b_Picture_shifted, _⟩ := C_Picture_shifted.ex
  obtain ⟨f_Picture_mapped, fd_Picture_mapped, G_Picture_mapped, M_Picture_mapped, b_Picture_mapped, _⟩ := C_Picture_mapped.ex
  obtain ⟨f_Picture_least, fd_Picture_least, G_Picture_least, M_Picture_least, b_Picture_least, _⟩ := C_Picture_least.ex
  obtain ⟨f_again, fd_again, G_again, g_again, kp_again, b_again, _⟩ := C_again.ex
  obtain ⟨f_joined, fd_joined, G_joined, g_joined, kp_joined, b_joined, _⟩ := C_joined.ex
  refine Fn.ok sc_pair_right (fun vs H Q E h => Psp4_len h) (fun cdv A outer s H vs Q E hr h => ?_)
  obtain ⟨F, v_one, v_other, v_grid, v_vector, one, other, grid, vector, res, rfl, ex, r_one, r_other, r_grid, r_vector, hm, hQ⟩ := h
  have k := Cov.init ex
  generalize hc : Act.mk H F [] = c at k hQ
  unfold m_pair_right at hm
  refine ⟨_, PSs.nox (pss_cons (ps_par (i := 4) (j := 5) (by rfl) sc_pair_right.nd rfl rfl (by decide) rfl rfl (pa_cons (pe_call G_again (hr.mono (by decide)) (by rfl) g_again kp_again b_again .nil pass0 (pa_cons (pv 0) pa_nil)) (pa_cons (pe_call G_again (hr.mono (by decide)) (by rfl) g_again kp_again b_again .nil pass0 (pa_cons (pv 1) pa_nil)) pa_nil)) (by rfl)) (pss_cons (ps_if (PW.pt (pw_or (pt_cmpR op_isN (pv 4) pe_non (nomark _)) (pw_or (pt_cmpR op_isN (pv 5) pe_non (nomark _)) (pw_or1 (pt_cmpR (op_neDK K rfl hr.units) (pe_call G_joined (hr.mono (by decide)) (by rfl) g_joined kp_joined b_joined .nil pass0 (pa_cons (pv 4) (pa_cons (pv 5) pa_nil))) (pe_call G_joined (hr.mono (by decide)) (by rfl) g_joined kp_joined b_joined .nil pass0 (pa_cons (pv 0) (pa_cons (pv 1) pa_nil))) (nomark _)))))) (pss_one (ps_ret pe_bl)) pss_nil) (pss_cons (ps_if (PW.pt (pw_or (pt_cmpR op_ne (pe_call G_show_picture (hr.mono (by decide)) (by rfl) g_show_picture kp_show_picture b_show_picture .nil pass0 (pa_cons (pe_op (op_binO (nm := "__sub__") (by rfl) L.in_Picture D_Picture___sub__ G_Picture___sub__ (hr.mono (by decide)) b_Picture___sub__ .nil pass0) (pv 4) (pv 5)) pa_nil)) (pe_call G_show_picture (hr.mono (by decide)) (by rfl) g_show_picture kp_show_picture b_show_picture .nil pass0 (pa_cons (pe_op (op_binO (nm := "__sub__") (by rfl) L.in_Picture D_Picture___sub__ G_Picture___sub__ (hr.mono (by decide)) b_Picture___sub__ .nil pass0) (pv 0) (pv 1)) pa_nil)) (nomark _)) (pw_or1 (pt_not (pt_cmpR (op_eqO D_Picture___eq__ G_Picture___eq__ (hr.mono (by decide)) b_Picture___eq__ .nil pass0) (pe_op (op_binO (nm := "__sub__") (by rfl) L.in_Picture D_Picture___sub__ G_Picture___sub__ (hr.mono (by decide)) b_Picture___sub__ .nil pass0) (pv 4) (pv 1)) (pe_op (op_binO (nm := "__sub__") (by rfl) L.in_Picture D_Picture___sub__ G_Picture___sub__ (hr.mono (by decide)) b_Picture___sub__ .nil pass0) (pv 0) (pv 5)) (nomark _)))))) (pss_one (ps_ret pe_bl)) pss_nil) (pss_cons (ps_if (pt_cmpR op_ne (pe_call G_show_picture (hr.mono (by decide)) (by rfl) g_show_picture kp_show_picture b_show_picture .nil pass0 (pa_cons (pe_meth (pv 4) L.cl_Picture M_Picture_shifted G_Picture_shifted (hr.mono (by decide)) b_Picture_shifted .nil pass0 (pa_cons (pv 3) pa_nil)) pa_nil)) (pe_call G_show_picture (hr.mono (by decide)) (by rfl) g_show_picture kp_show_picture b_show_picture .nil pass0 (pa_cons (pe_meth (pv 0) L.cl_Picture M_Picture_shifted G_Picture_shifted (hr.mono (by decide)) b_Picture_shifted .nil pass0 (pa_cons (pv 3) pa_nil)) pa_nil)) (nomark _)) (pss_one (ps_ret pe_bl)) pss_nil) (pss_cons (ps_if (PW.pt (pw_or (pt_not (pt_cmpR (op_eqO D_Picture___eq__ G_Picture___eq__ (hr.mono (by decide)) b_Picture___eq__ .nil pass0) (pe_meth (pv 4) L.cl_Picture M_Picture_mapped G_Picture_mapped (hr.mono (by decide)) b_Picture_mapped .nil pass0 (pa_cons (pv 2) pa_nil)) (pe_meth (pv 0) L.cl_Picture M_Picture_mapped G_Picture_mapped (hr.mono (by decide)) b_Picture_mapped .nil pass0 (pa_cons (pv 2) pa_nil)) (nomark _))) (pw_or1 (pt_cmpR op_ne (pe_call G_show_picture (hr.mono (by decide)) (by rfl) g_show_picture kp_show_picture b_show_picture .nil pass0 (pa_cons (pe_meth0 (pv 5) L.cl_Picture M_Picture_least G_Picture_least (hr.mono (by decide)) b_Picture_least .nil pass0) pa_nil)) (pe_call G_show_picture (hr.mono (by decide)) (by rfl) g_show_picture kp_show_picture b_show_picture .nil pass0 (pa_cons (pe_meth0 (pv 1) L.cl_Picture M_Picture_least G_Picture_least (hr.mono (by decide)) b_Picture_least .nil pass0) pa_nil)) (nomark _))))) (pss_one (ps_ret pe_bl)) pss_nil) (pss_one (ps_ret (pe_and (pe_cmpR op_eq (pe_cmpR op_eq (pe_call G_show_picture (hr.mono (by decide)) (by rfl) g_show_picture kp_show_picture b_show_picture .nil pass0 (pa_cons (pv 0) pa_nil)) (pe_call G_show_picture (hr.mono (by decide)) (by rfl) g_show_picture kp_show_picture b_show_picture .nil pass0 (pa_cons (pv 1) pa_nil)) (nomark _)) (pe_cmpR (op_eqO D_Picture___eq__ G_Picture___eq__ (hr.mono (by decide)) b_Picture___eq__ .nil pass0) (pv 0) (pv 1) (nomark _)) (nomark _)) (pe_one (pe_cmpR op_eq (pe_cmpR (op_eqO D_Picture___eq__ G_Picture___eq__ (hr.mono (by decide)) b_Picture___eq__ .nil pass0) (pv 4) (pv 5) (nomark _)) (pe_cmpR (op_eqO D_Picture___eq__ G_Picture___eq__ (hr.mono (by decide)) b_Picture___eq__ .nil pass0) (pv 0) (pv 1) (nomark _)) (nomark _))))))))))), ?_⟩
  show (_ : TS) _ [some v_one, some v_other, some v_grid, some v_vector, none, none] _
  obtain ⟨⟨first_n, second_n⟩, hx, hm⟩ := bind_some hm
  obtain ⟨hx, hy⟩ := oP2_some hx
  refine q_par (em_Pcall1t (em_var (i := 0) rfl r_one)) (em_Pcall1t (em_var (i := 1) rfl r_other)) hx hy k fun v_first v_second F H e k r_first r_second => ?_
  obtain ⟨first, ez_⟩ : ∃ z, z = first_n := ⟨_, rfl⟩; subst ez_
  obtain ⟨second, ez_⟩ : ∃ z, z = second_n := ⟨_, rfl⟩; subst ez_
  show (_ : TS) _ [some v_one, some v_other, some v_grid, some v_vector, some v_first, some v_second] _
  have r_one := (rO4 (He.ga K "Picture") "dimension" "words" "seen_places" "hidden_places" rInt (rDic rStr) (rLst (rTup K rInt)) (rLst (rTup K rInt))).up e r_one
  have r_other := (rO4 (He.ga K "Picture") "dimension" "words" "seen_places" "hidden_places" rInt (rDic rStr) (rLst (rTup K rInt)) (rLst (rTup K rInt))).up e r_other
  have r_grid := (rLst (rLst rInt)).up e r_grid
  have r_vector := (rTup K rInt).up e r_vector
  obtain ⟨b, hb, hm⟩ := bind_some hm
  refine q_ife (et_or (et_test (em_isN (em_var (i := 4) rfl r_first))) (et_or (et_test (em_isN (em_var (i := 5) rfl r_second))) (et_test (em_op vo_neU (em_mapR (ra := (rAlt rStr (rTup K rInt))) (g := (Sum.elim PyData.str (fun (l : (List Int)) => PyData.tuple (l.map PyData.int)))) (dat_alt (K := K) (to_dat (K := K) dq_str) (to_dat (K := K) (dq_tup dq_int))) (em_Pcall2 (em_unO (em_var (i := 4) rfl r_first)) (em_unO (em_var (i := 5) rfl r_second)))) (em_mapR (ra := (rAlt rStr (rTup K rInt))) (g := (Sum.elim PyData.str (fun (l : (List Int)) => PyData.tuple (l.map PyData.int)))) (dat_alt (K := K) (to_dat (K := K) dq_str) (to_dat (K := K) (dq_tup dq_int))) (em_Pcall2t (em_var (i := 0) rfl r_one) (em_var (i := 1) rfl r_other))))))) hb k (fun eb F H e k => ?_) (fun eb F H e k => ?_)
  ·
    subst eb
    have hm := hT hm
    have r_one := (rO4 (He.ga K "Picture") "dimension" "words" "seen_places" "hidden_places" rInt (rDic rStr) (rLst (rTup K rInt)) (rLst (rTup K rInt))).up e r_one
    have r_other := (rO4 (He.ga K "Picture") "dimension" "words" "seen_places" "hidden_places" rInt (rDic rStr) (rLst (rTup K rInt)) (rLst (rTup K rInt))).up e r_other
    have r_grid := (rLst (rLst rInt)).up e r_grid
    have r_vector := (rTup K rInt).up e r_vector
    have r_first := (rOpt (rO4 (He.ga K "Picture") "dimension" "words" "seen_places" "hidden_places" rInt (rDic rStr) (rLst (rTup K rInt)) (rLst (rTup K rInt)))).up e r_first
    have r_second := (rOpt (rO4 (He.ga K "Picture") "dimension" "words" "seen_places" "hidden_places" rInt (rDic rStr) (rLst (rTup K rInt)) (rLst (rTup K rInt)))).up e r_second
    obtain ⟨rv, hv, hm⟩ := bind_some hm
    have hm := Option.some.inj hm
    cases hm
    exact a_ret em_bl hv k fun v F H e k r => hQ v F H k.dropAll r
  ·
    subst eb
    have hm := hF hm
    have r_one := (rO4 (He.ga K "Picture") "dimension" "words" "seen_places" "hidden_places" rInt (rDic rStr) (rLst (rTup K rInt)) (rLst (rTup K rInt))).up e r_one
    have r_other := (rO4 (He.ga K "Picture") "dimension" "words" "seen_places" "hidden_places" rInt (rDic rStr) (rLst (rTup K rInt)) (rLst (rTup K rInt))).up e r_other
    have r_grid := (rLst (rLst rInt)).up e r_grid
    have r_vector := (rTup K rInt).up e r_vector
    have r_first := (rOpt (rO4 (He.ga K "Picture") "dimension" "words" "seen_places" "hidden_places" rInt (rDic rStr) (rLst (rTup K rInt)) (rLst (rTup K rInt)))).up e r_first
    have r_second := (rOpt (rO4 (He.ga K "Picture") "dimension" "words" "seen_places" "hidden_places" rInt (rDic rStr) (rLst (rTup K rInt)) (rLst (rTup K rInt)))).up e r_second
    obtain ⟨b, hb, hm⟩ := bind_some hm
    refine q_ife (et_or (et_test (em_op vo_neS (em_Pcall1 (em_op (vo_binO objP_O4) (em_unO (em_var (i := 4) rfl r_first)) (em_unO (em_var (i := 5) rfl r_second)))) (em_Pcall1 (em_op (vo_binO objP_O4) (em_var (i := 0) rfl r_one) (em_var (i := 1) rfl r_other))))) (et_not (et_test (em_op (vo_eqO objP_O4) (em_op (vo_binO objP_O4) (em_unO (em_var (i := 4) rfl r_first)) (em_var (i := 1) rfl r_other)) (em_op (vo_binO objP_O4) (em_var (i := 0) rfl r_one) (em_unO (em_var (i := 5) rfl r_second))))))) hb k (fun eb F H e k => ?_) (fun eb F H e k => ?_)
    ·
      subst eb
      have hm := hT hm
      have r_one := (rO4 (He.ga K "Picture") "dimension" "words" "seen_places" "hidden_places" rInt (rDic rStr) (rLst (rTup K rInt)) (rLst (rTup K rInt))).up e r_one
      have r_other := (rO4 (He.ga K "Picture") "dimension" "words" "seen_places" "hidden_places" rInt (rDic rStr) (rLst (rTup K rInt)) (rLst (rTup K rInt))).up e r_other
      have r_grid := (rLst (rLst rInt)).up e r_grid
      have r_vector := (rTup K rInt).up e r_vector
      have r_first := (rOpt (rO4 (He.ga K "Picture") "dimension" "words" "seen_places" "hidden_places" rInt (rDic rStr) (rLst (rTup K rInt)) (rLst (rTup K rInt)))).up e r_first
      have r_second := (rOpt (rO4 (He.ga K "Picture") "dimension" "words" "seen_places" "hidden_places" rInt (rDic rStr) (rLst (rTup K rInt)) (rLst (rTup K rInt)))).up e r_second
      obtain ⟨rv, hv, hm⟩ := bind_some hm
      have hm := Option.some.inj hm
      cases hm
      exact a_ret em_bl hv k fun v F H e k r => hQ v F H k.dropAll r
    ·
      subst eb
      have hm := hF hm
      have r_one := (rO4 (He.ga K "Picture") "dimension" "words" "seen_places" "hidden_places" rInt (rDic rStr) (rLst (rTup K rInt)) (rLst (rTup K rInt))).up e r_one
      have r_other := (rO4 (He.ga K "Picture") "dimension" "words" "seen_places" "hidden_places" rInt (rDic rStr) (rLst (rTup K rInt)) (rLst (rTup K rInt))).up e r_other
      have r_grid := (rLst (rLst rInt)).up e r_grid
      have r_vector := (rTup K rInt).up e r_vector
      have r_first := (rOpt (rO4 (He.ga K "Picture") "dimension" "words" "seen_places" "hidden_places" rInt (rDic rStr) (rLst (rTup K rInt)) (rLst (rTup K rInt)))).up e r_first
      have r_second := (rOpt (rO4 (He.ga K "Picture") "dimension" "words" "seen_places" "hidden_places" rInt (rDic rStr) (rLst (rTup K rInt)) (rLst (rTup K rInt)))).up e r_second
      obtain ⟨b, hb, hm⟩ := bind_some hm
      refine q_ife (et_test (em_op vo_neS (em_Pcall1 (em_gm1 (objM_O4 (by decide) (by decide) (by decide) (by decide)) (em_unO (em_var (i := 4) rfl r_first)) (em_var (i := 3) rfl r_vector))) (em_Pcall1 (em_gm1 (objM_O4 (by decide) (by decide) (by decide) (by decide)) (em_var (i := 0) rfl r_one) (em_var (i := 3) rfl r_vector))))) hb k (fun eb F H e k => ?_) (fun eb F H e k => ?_)
      ·
        subst eb
        have hm := hT hm
        have r_one := (rO4 (He.ga K "Picture") "dimension" "words" "seen_places" "hidden_places" rInt (rDic rStr) (rLst (rTup K rInt)) (rLst (rTup K rInt))).up e r_one
        have r_other := (rO4 (He.ga K "Picture") "dimension" "words" "seen_places" "hidden_places" rInt (rDic rStr) (rLst (rTup K rInt)) (rLst (rTup K rInt))).up e r_other
        have r_grid := (rLst (rLst rInt)).up e r_grid
        have r_vector := (rTup K rInt).up e r_vector
        have r_first := (rOpt (rO4 (He.ga K "Picture") "dimension" "words" "seen_places" "hidden_places" rInt (rDic rStr) (rLst (rTup K rInt)) (rLst (rTup K rInt)))).up e r_first
        have r_second := (rOpt (rO4 (He.ga K "Picture") "dimension" "words" "seen_places" "hidden_places" rInt (rDic rStr) (rLst (rTup K rInt)) (rLst (rTup K rInt)))).up e r_second
        obtain ⟨rv, hv, hm⟩ := bind_some hm
        have hm := Option.some.inj hm
        cases hm
        exact a_ret em_bl hv k fun v F H e k r => hQ v F H k.dropAll r
      ·
        subst eb
        have hm := hF hm
        have r_one := (rO4 (He.ga K "Picture") "dimension" "words" "seen_places" "hidden_places" rInt (rDic rStr) (rLst (rTup K rInt)) (rLst (rTup K rInt))).up e r_one
        have r_other := (rO4 (He.ga K "Picture") "dimension" "words" "seen_places" "hidden_places" rInt (rDic rStr) (rLst (rTup K rInt)) (rLst (rTup K rInt))).up e r_other
        have r_grid := (rLst (rLst rInt)).up e r_grid
        have r_vector := (rTup K rInt).up e r_vector
        have r_first := (rOpt (rO4 (He.ga K "Picture") "dimension" "words" "seen_places" "hidden_places" rInt (rDic rStr) (rLst (rTup K rInt)) (rLst (rTup K rInt)))).up e r_first
        have r_second := (rOpt (rO4 (He.ga K "Picture") "dimension" "words" "seen_places" "hidden_places" rInt (rDic rStr) (rLst (rTup K rInt)) (rLst (rTup K rInt)))).up e r_second
        obtain ⟨b, hb, hm⟩ := bind_some hm
        refine q_ife (et_or (et_not (et_test (em_op (vo_eqO objP_O4) (em_gm1 (objM_O4 (by decide) (by decide) (by decide) (by decide)) (em_unO (em_var (i := 4) rfl r_first)) (em_var (i := 2) rfl r_grid)) (em_gm1 (objM_O4 (by decide) (by decide) (by decide) (by decide)) (em_var (i := 0) rfl r_one) (em_var (i := 2) rfl r_grid))))) (et_test (em_op vo_neS (em_Pcall1 (em_gm0 (objM_O4 (by decide) (by decide) (by decide) (by decide)) (em_unO (em_var (i := 5) rfl r_second)))) (em_Pcall1 (em_gm0 (objM_O4 (by decide) (by decide) (by decide) (by decide)) (em_var (i := 1) rfl r_other)))))) hb k (fun eb F H e k => ?_) (fun eb F H e k => ?_)
        ·
          subst eb
          have hm := hT hm
          have r_one := (rO4 (He.ga K "Picture") "dimension" "words" "seen_places" "hidden_places" rInt (rDic rStr) (rLst (rTup K rInt)) (rLst (rTup K rInt))).up e r_one
          have r_other := (rO4 (He.ga K "Picture") "dimension" "words" "seen_places" "hidden_places" rInt (rDic rStr) (rLst (rTup K rInt)) (rLst (rTup K rInt))).up e r_other
          have r_grid := (rLst (rLst rInt)).up e r_grid
          have r_vector := (rTup K rInt).up e r_vector
          have r_first := (rOpt (rO4 (He.ga K "Picture") "dimension" "words" "seen_places" "hidden_places" rInt (rDic rStr) (rLst (rTup K rInt)) (rLst (rTup K rInt)))).up e r_first
          have r_second := (rOpt (rO4 (He.ga K "Picture") "dimension" "words" "seen_places" "hidden_places" rInt (rDic rStr) (rLst (rTup K rInt)) (rLst (rTup K rInt)))).up e r_second
          obtain ⟨rv, hv, hm⟩ := bind_some hm
          have hm := Option.some.inj hm
          cases hm
          exact a_ret em_bl hv k fun v F H e k r => hQ v F H k.dropAll r
        ·
          subst eb
          have hm := hF hm
          have r_one := (rO4 (He.ga K "Picture") "dimension" "words" "seen_places" "hidden_places" rInt (rDic rStr) (rLst (rTup K rInt)) (rLst (rTup K rInt))).up e r_one
          have r_other := (rO4 (He.ga K "Picture") "dimension" "words" "seen_places" "hidden_places" rInt (rDic rStr) (rLst (rTup K rInt)) (rLst (rTup K rInt))).up e r_other
          have r_grid := (rLst (rLst rInt)).up e r_grid
          have r_vector := (rTup K rInt).up e r_vector
          have r_first := (rOpt (rO4 (He.ga K "Picture") "dimension" "words" "seen_places" "hidden_places" rInt (rDic rStr) (rLst (rTup K rInt)) (rLst (rTup K rInt)))).up e r_first
          have r_second := (rOpt (rO4 (He.ga K "Picture") "dimension" "words" "seen_places" "hidden_places" rInt (rDic rStr) (rLst (rTup K rInt)) (rLst (rTup K rInt)))).up e r_second
          obtain ⟨rv, hv, hm⟩ := bind_some hm
          have hm := Option.some.inj hm
          cases hm
          exact a_ret (em_andV (em_op vo_eqB (em_op vo_eqS (em_Pcall1t (em_var (i := 0) rfl r_one)) (em_Pcall1t (em_var (i := 1) rfl r_other))) (em_op (vo_eqO objP_O4) (em_var (i := 0) rfl r_one) (em_var (i := 1) rfl r_other))) (em_op vo_eqB (em_op (vo_eqO objP_O4) (em_unO (em_var (i := 4) rfl r_first)) (em_unO (em_var (i := 5) rfl r_second))) (em_op (vo_eqO objP_O4) (em_var (i := 0) rfl r_one) (em_var (i := 1) rfl r_other)))) hv k fun v F H e k r => hQ v F H k.dropAll r
abbrev s_right : Stmt := topS 59
abbrev N_right : List PySem.Str := ["_law_spring_here", "_law_axes", "_law_lit", "_law_dim", "_law_left", "_law_right_here", "_law_one", "_law_other", "_law_grid", "_law_vector", "_law_first", "_law_ahead", "_law_line_here", "_law_text", "_law_spot", "_law_k"]
theorem sc_right : FnScope N_right ["_law_spring_here"] (defScope s_right) := ⟨rfl, rfl, rfl, by decide +kernel, rfl, by decide +kernel, by decide +kernel⟩
def sp_right (K : PySem.W.Frag) : Sp := (MPsp0 (fun z => cLst rInt z)  rBool m_right)
theorem ok_right {P : Program} {w : World} {K : PySem.W.Frag} {mg : PySem.Str → Option Value} {base : Heap} (T : Txt mg) (L : ClsF K mg) (E_ : ErrF K mg erL) (C_Picture___init__ : CalI P w K mg base 1 (He.ga K "Picture") ["self", "size", "seen", "hidden"] (sp_Picture___init__ K) (fun _ => True)) (C_Line___init__ : CalIX P w K mg base 3 (He.ga K "Line") ["self", "start", "step"] (sp_Line___init__ K) (fun _ => True)) (C_Line___eq__ : CalO P w K mg base 1 (He.ga K "Line") "__eq__" ["self", "other"] (sp_Line___eq__ K) (fun _ => True)) (C_show_place : Cal P w K mg base 1 "show_place" ["place"] (sp_show_place K) (fun _ => True)) (C_show_picture : Cal P w K mg base 3 "show_picture" ["picture"] (sp_show_picture K) (fun _ => True)) (C_show_line : Cal P w K mg base 3 "show_line" ["line"] (sp_show_line K) (fun _ => True)) (C_read_line : CalX P w K mg base 5 "read_line" ["text"] (sp_read_line K) (fun _ => True)) (C_sip : Cal P w K mg base 1 "_law_sip" ["_law_spring_here", "_law_many"] (sp_sip K) (fun _ => True)) (C_far : Cal P w K mg base 2 "_law_far" ["_law_spring_here", "_law_wide"] (sp_far K) (fun _ => True)) (C_parts : Cal P w K mg base 4 "_law_parts" ["_law_spring_here", "_law_axes", "_law_most"] (sp_parts K) (fun _ => True)) (C_matrix : Cal P w K mg base 2 "_law_matrix" ["_law_spring_here", "_law_axes"] (sp_matrix K) (fun _ => True)) (C_line_ : Cal P w K mg base 3 "_law_line" ["_law_spring_here", "_law_axes"] (sp_line_ K) (fun _ => True)) (C_unread : Cal P w K mg base 7 "_law_unread" ["_law_door", "_law_text"] (sp_unread K) (fun _ => True)) (C_pair_right : Cal P w K mg base 6 "_law_pair_right" ["_law_one", "_law_other", "_law_grid", "_law_vector"] (sp_pair_right K) (fun _ => True)) {f : Addr} {fd : FuncData} (Fn : FnP K "_law_right" s_right f fd) : FnOk P w K mg base CX0 8 f fd ["_law_spring_here"] (sp_right K) := by
  obtain ⟨f_Picture___init__, fd_Picture___init__, G_Picture___init__, M_Picture___init__, b_Picture___init__, _⟩ := C_Picture___init__.ex
  obtain ⟨f_Line___init__, fd_Line___init__, G_Line___init__, M_Line___init__, b_Line___init__, _⟩ := C_Line___init__.ex
  obtain ⟨f_Line___eq__, fd_Line___eq__, G_Line___eq__, D_Line___eq__, b_Line___eq__, _⟩ := C_Line___eq__.ex
  obtain ⟨f_show_place, fd_show_place, G_show_place, g_show_place, kp_show_place, b_show_place, _⟩ := C_show_place.ex
  obtain ⟨f_show_picture, fd_show_picture, G_show_picture, g_show_picture, kp_show_picture, b_show_picture, _⟩ := C_show_picture.ex
  obtain ⟨f_show_line, fd_show_line, G_show_line, g_show_line, kp_show_line, b_show_line, _⟩ := C_show_line.ex
  obtain ⟨f_read_line, fd_read_line, G_read_line, g_read_line, kp_read_line, b_read_line, _⟩ := C_read_line.ex
  obtain ⟨f_sip, fd_sip, G_sip, g_sip, kp_sip, b_sip, _⟩ := C_sip.ex
  obtain ⟨f_far, fd_far, G_far, g_far, kp_far, b_far, _⟩ := C_far.ex
  obtain ⟨f_parts, fd_parts, G_parts, g_parts, kp_parts, b_parts, _⟩ := C_parts.ex
  obtain ⟨f_matrix, fd_matrix, G_matrix, g_matrix, kp_matrix, b_matrix, _⟩ := C_matrix.ex
  obtain ⟨f_line_, fd_line_, G_line_, g_line_, kp_line_, b_line_, _⟩ := C_line_.ex
  obtain ⟨f_unread, fd_unread, G_unread, g_unread, kp_unread, b_unread, _⟩ := C_unread.ex
  obtain ⟨f_pair_right, fd_pair_right, G_pair_right, g_pair_right, kp_pair_right, b_pair_right, _⟩ := C_pair_right.ex
  refine Fn.ok sc_right (fun vs H Q E h => MPsp0_len h) (fun cdv A outer s H vs Q E hr h => ?_)
  obtain ⟨F, p_spring_here, spring_here, res, s_out, rfl, k, hm, hQ⟩ := h
  generalize hc : Act.mk H F [p_spring_here] = c at k hQ
  unfold m_right at hm
  refine ⟨_, PSs.nox (pss_cons (ps_set (i := 1) sc_right.nd rfl (Or.inl rfl) (pe_op op_add pe_int (pe_call G_sip (hr.mono (by decide)) (by rfl) g_sip kp_sip b_sip .nil pass0 (pa_cons (pv 0) (pa_cons pe_int pa_nil))))) (pss_cons (ps_asg (pe_call G_parts (hr.mono (by decide)) (by rfl) g_parts kp_parts b_parts .nil pass0 (pa_cons (pv 0) (pa_cons (pv 1) (pa_cons pe_int pa_nil)))) (pg_tup (by rfl) (pgs_cons (pg_name (i := 2) sc_right.nd rfl (Or.inr rfl)) (pgs_cons (pg_name (i := 3) sc_right.nd rfl (Or.inr rfl)) pgs_nil)))) (pss_cons (ps_asg (pe_call G_parts (hr.mono (by decide)) (by rfl) g_parts kp_parts b_parts .nil pass0 (pa_cons (pv 0) (pa_cons (pv 1) (pa_cons pe_int pa_nil)))) (pg_tup (by rfl) (pgs_cons (pg_name (i := 4) sc_right.nd rfl (Or.inl rfl)) (pgs_cons (pg_name (i := 5) sc_right.nd rfl (Or.inl rfl)) pgs_nil)))) (Evl.pss_cut (ps_if (pt_cmpR op_eq (pe_call G_sip (hr.mono (by decide)) (by rfl) g_sip kp_sip b_sip .nil pass0 (pa_cons (pv 0) (pa_cons pe_int pa_nil))) pe_int (nomark _)) (pss_cons (ps_set (i := 4) sc_right.nd rfl (Or.inl rfl) (pe_op op_cat (pv 2) (pe_lc (own := [("_law_spot", 14)]) (g := (gName 14)) (tt := _) rfl sc_right.nd (pi_listK K rfl (pv 4)) (blkOk_by (N := N_right) (sc := defScope s_right) (by decide +kernel)) (fun _ _ _ _ _ => (pg_name (i := 14) sc_right.nd rfl (Or.inl rfl))) (fun _ _ _ _ _ => (pts_one (pt_cmpR (op_notInDK K rfl (un65 hr)) (pv 14) (pe_op op_cat (pv 2) (pv 3)) rfl))) (fun _ _ _ _ _ => (pv 14))))) (pss_one (ps_setLc (i := 5) (own := [("_law_spot", 14)]) (g := (gName 14)) (tt := _) rfl sc_right.nd rfl rfl (sw_true rfl rfl rfl (by decide +kernel)) (pi_listK K rfl (pv 3)) (blkOk_by (N := N_right) (sc := defScope s_right) (by decide +kernel)) (fun _ _ _ _ _ => (pg_name (i := 14) sc_right.nd rfl (Or.inl rfl))) (fun _ _ _ _ _ => (pts_one (pt_cmpR op_gt (pe_call G_sip (hr.mono (by decide)) (by rfl) g_sip kp_sip b_sip .nil pass0 (pa_cons (pv 0) (pa_cons pe_int pa_nil))) pe_int (nomark _)))) (fun _ _ _ _ _ => (pv 14))))) pss_nil) (pss_cons (ps_set (i := 6) sc_right.nd rfl (Or.inl rfl) (pe_make M_Picture___init__ G_Picture___init__ (hr.mono (by decide)) (by rfl) L.g_Picture b_Picture___init__ .nil pass0 (pa_cons (pv 1) (pa_cons (pv 2) (pa_cons (pv 3) pa_nil))))) (pss_cons (ps_set (i := 7) sc_right.nd rfl (Or.inl rfl) (pe_make M_Picture___init__ G_Picture___init__ (hr.mono (by decide)) (by rfl) L.g_Picture b_Picture___init__ .nil pass0 (pa_cons (pv 1) (pa_cons (pv 4) (pa_cons (pv 5) pa_nil))))) (pss_cons (ps_set (i := 8) sc_right.nd rfl (Or.inl rfl) (pe_call G_matrix (hr.mono (by decide)) (by rfl) g_matrix kp_matrix b_matrix .nil pass0 (pa_cons (pv 0) (pa_cons (pv 1) pa_nil)))) (pss_cons (ps_set (i := 9) sc_right.nd rfl (Or.inl rfl) (pe_callTy (call_tuple_ofK K rfl) (by rfl) T.b_tuple (by decide +kernel) (pa_cons (pe_lc (own := [("_law_k", 15)]) (g := (gName 15)) (tt := tYes) rfl sc_right.nd (pi_range1 (by rfl) T.b_range (pa_cons (pv 1) pa_nil)) (blkOk_by (N := N_right) (sc := defScope s_right) (by decide +kernel)) (fun _ _ _ _ _ => (pg_name (i := 15) sc_right.nd rfl (Or.inl rfl))) (fun _ _ _ _ _ => pts_nil) (fun _ _ _ _ _ => (pe_call G_far (hr.mono (by decide)) (by rfl) g_far kp_far b_far .nil pass0 (pa_cons (pv 0) (pa_cons (pe_ix (ix_listK K rfl) (pe_lst (pa_cons pe_int (pa_cons pe_int (pa_cons (pe_op op_pow pe_int pe_int) pa_nil)))) (pe_call G_sip (hr.mono (by decide)) (by rfl) g_sip kp_sip b_sip .nil pass0 (pa_cons (pv 0) (pa_cons pe_int pa_nil))) (fun _ _ => rfl)) pa_nil))))) pa_nil))) (pss_cons (ps_if (PW.pt (pw_or (pt_not (pt_val (pe_call G_pair_right (hr.mono (by decide)) (by rfl) g_pair_right kp_pair_right b_pair_right .nil pass0 (pa_cons (pv 6) (pa_cons (pv 7) (pa_cons (pv 8) (pa_cons (pv 9) pa_nil))))))) (pw_or1 (pt_not (pt_val (pe_call G_pair_right (hr.mono (by decide)) (by rfl) g_pair_right kp_pair_right b_pair_right .nil pass0 (pa_cons (pv 7) (pa_cons (pv 6) (pa_cons (pv 8) (pa_cons (pv 9) pa_nil)))))))))) (pss_one (ps_ret pe_bl)) pss_nil) (pss_cons (ps_asg (pe_call G_line_ (hr.mono (by decide)) (by rfl) g_line_ kp_line_ b_line_ .nil pass0 (pa_cons (pv 0) (pa_cons (pv 1) pa_nil))) (pg_tup (by rfl) (pgs_cons (pg_name (i := 10) sc_right.nd rfl (Or.inl rfl)) (pgs_cons (pg_name (i := 11) sc_right.nd rfl (Or.inl rfl)) pgs_nil)))) (pss_cons (ps_set (i := 12) sc_right.nd rfl (Or.inl rfl) (pe_make M_Line___init__ G_Line___init__ (hr.mono (by decide)) (by rfl) L.g_Line b_Line___init__ .nil passL (pa_cons (pv 10) (pa_cons (pv 11) pa_nil)))) (pss_cons (ps_set (i := 13) sc_right.nd rfl (Or.inl rfl) (pe_call G_show_line (hr.mono (by decide)) (by rfl) g_show_line kp_show_line b_show_line .nil pass0 (pa_cons (pv 12) pa_nil))) (pss_cons (ps_if (PW.pt (pw_or (pt_not (pt_cmpR (op_eqO D_Line___eq__ G_Line___eq__ (hr.mono (by decide)) b_Line___eq__ .nil pass0) (pe_call G_read_line (hr.mono (by decide)) (by rfl) g_read_line kp_read_line b_read_line .nil passL (pa_cons (pv 13) pa_nil)) (pv 12) (nomark _))) (pw_or1 (pt_cmpR op_ne (pe_call G_show_line (hr.mono (by decide)) (by rfl) g_show_line kp_show_line b_show_line .nil pass0 (pa_cons (pe_call G_read_line (hr.mono (by decide)) (by rfl) g_read_line kp_read_line b_read_line .nil passL (pa_cons (pv 13) pa_nil)) pa_nil)) (pv 13) (nomark _))))) (pss_one (ps_ret pe_bl)) pss_nil) (pss_cons (ps_if (PW.pt (pw_or (pt_not (pt_val (pe_call G_unread (hr.mono (by decide)) (by rfl) g_unread kp_unread b_unread .nil pass0 (pa_cons pe_int (pa_cons (pv 13) pa_nil))))) (pw_or (pt_not (pt_val (pe_call G_unread (hr.mono (by decide)) (by rfl) g_unread kp_unread b_unread .nil pass0 (pa_cons pe_int (pa_cons (pv 13) pa_nil))))) (pw_or1 (pt_not (pt_val (pe_call G_unread (hr.mono (by decide)) (by rfl) g_unread kp_unread b_unread .nil pass0 (pa_cons pe_int (pa_cons (pe_call G_show_picture (hr.mono (by decide)) (by rfl) g_show_picture kp_show_picture b_show_picture .nil pass0 (pa_cons (pv 6) pa_nil)) pa_nil))))))))) (pss_one (ps_ret pe_bl)) pss_nil) (pss_one (ps_ret (pe_and (pe_call G_unread (hr.mono (by decide)) (by rfl) g_unread kp_unread b_unread .nil pass0 (pa_cons pe_int (pa_cons (pe_call G_show_picture (hr.mono (by decide)) (by rfl) g_show_picture kp_show_picture b_show_picture .nil pass0 (pa_cons (pv 6) pa_nil)) pa_nil))) (pe_and (pe_call G_unread (hr.mono (by decide)) (by rfl) g_unread kp_unread b_unread .nil pass0 (pa_cons pe_int (pa_cons (pe_call G_show_place (hr.mono (by decide)) (by rfl) g_show_place kp_show_place b_show_place .nil pass0 (pa_cons (pv 10) pa_nil)) pa_nil))) (pe_one (pe_call G_unread (hr.mono (by decide)) (by rfl) g_unread kp_unread b_unread .nil pass0 (pa_cons pe_int (pa_cons (pe_call G_show_place (hr.mono (by decide)) (by rfl) g_show_place kp_show_place b_show_place .nil pass0 (pa_cons (pv 10) pa_nil)) pa_nil)))))))))))))))))))))), ?_⟩
  show (_ : TS) _ [some (.ref p_spring_here), none, none, none, none, none, none, none, none, none, none, none, none, none, none, none] _
  obtain ⟨⟨axes_n, spring_here_n⟩, hx, hm⟩ := bind_some hm
  refine q_setS (cs' := (fun spring_here => [(p_spring_here, cLst rInt spring_here)])) (sm_op (cs := (fun spring_here => [(p_spring_here, cLst rInt spring_here)])) (s := spring_here) vo_add (EM.sm (cs := (fun spring_here => [(p_spring_here, cLst rInt spring_here)])) (s := spring_here) em_int) fun spring_here => (sm_Mcall1 (cs := (fun spring_here => [(p_spring_here, cLst rInt spring_here)])) (s := spring_here) (cell := fun z => cLst rInt z) (i0 := 0) (j0 := 0) rfl (fun _ => rfl) (fun _ _ => rfl) (EM.sm (cs := (fun spring_here => [(p_spring_here, cLst rInt spring_here)])) (s := spring_here) em_int))) hx k fun v_axes F H e k r_axes => ?_
  obtain ⟨axes, ez_⟩ : ∃ z, z = axes_n := ⟨_, rfl⟩; subst ez_
  obtain ⟨spring_here, ez_⟩ : ∃ z, z = spring_here_n := ⟨_, rfl⟩; subst ez_
  have k : Cov c F [(p_spring_here, cLst rInt spring_here)] H := k
  show (_ : TS) _ [some (.ref p_spring_here), some v_axes, none, none, none, none, none, none, none, none, none, none, none, none, none, none] _
  obtain ⟨⟨⟨lit_n, dim_n⟩, spring_here_n⟩, hx, hm⟩ := bind_some hm
  refine q_unp2S (cs' := (fun spring_here => [(p_spring_here, cLst rInt spring_here)])) (sm_Mcall2 (cs := (fun spring_here => [(p_spring_here, cLst rInt spring_here)])) (s := spring_here) (cell := fun z => cLst rInt z) (i0 := 0) (j0 := 0) rfl (fun _ => rfl) (fun _ _ => rfl) (EM.sm (cs := (fun spring_here => [(p_spring_here, cLst rInt spring_here)])) (s := spring_here) (em_varf (i := 1) fl_int rfl r_axes)) (fun spring_here => (EM.sm (cs := (fun spring_here => [(p_spring_here, cLst rInt spring_here)])) (s := spring_here) em_int))) hx k fun v_lit v_dim F H e k r_lit r_dim => ?_
  obtain ⟨lit, ez_⟩ : ∃ z, z = lit_n := ⟨_, rfl⟩; subst ez_
  obtain ⟨dim, ez_⟩ : ∃ z, z = dim_n := ⟨_, rfl⟩; subst ez_
  obtain ⟨spring_here, ez_⟩ : ∃ z, z = spring_here_n := ⟨_, rfl⟩; subst ez_
  have k : Cov c F [(p_spring_here, cLst rInt spring_here)] H := k
  show (_ : TS) _ [some (.ref p_spring_here), some v_axes, some v_lit, some v_dim, none, none, none, none, none, none, none, none, none, none, none, none] _
  obtain ⟨⟨⟨left_n, right_here_n⟩, spring_here_n⟩, hx, hm⟩ := bind_some hm
  refine q_unp2S (cs' := (fun spring_here => [(p_spring_here, cLst rInt spring_here)])) (sm_Mcall2 (cs := (fun spring_here => [(p_spring_here, cLst rInt spring_here)])) (s := spring_here) (cell := fun z => cLst rInt z) (i0 := 0) (j0 := 0) rfl (fun _ => rfl) (fun _ _ => rfl) (EM.sm (cs := (fun spring_here => [(p_spring_here, cLst rInt spring_here)])) (s := spring_here) (em_varf (i := 1) fl_int rfl r_axes)) (fun spring_here => (EM.sm (cs := (fun spring_here => [(p_spring_here, cLst rInt spring_here)])) (s := spring_here) em_int))) hx k fun v_left v_right_here F H e k r_left r_right_here => ?_
  obtain ⟨left, ez_⟩ : ∃ z, z = left_n := ⟨_, rfl⟩; subst ez_
  obtain ⟨right_here, ez_⟩ : ∃ z, z = right_here_n := ⟨_, rfl⟩; subst ez_
  obtain ⟨spring_here, ez_⟩ : ∃ z, z = spring_here_n := ⟨_, rfl⟩; subst ez_
  have k : Cov c F [(p_spring_here, cLst rInt spring_here)] H := k
  show (_ : TS) _ [some (.ref p_spring_here), some v_axes, some v_lit, some v_dim, some v_left, some v_right_here, none, none, none, none, none, none, none, none, none, none] _
  have r_lit := (rLst (rTup K rInt)).up e r_lit
  have r_dim := (rLst (rTup K rInt)).up e r_dim
  obtain ⟨⟨left_j, right_here_j, spring_here_j⟩, hj, hm⟩ := bind_some hm
  refine q_cut (Mid := fun σ1 H1 => ∃ F1 v_left v_right_here, σ1 = [some (.ref p_spring_here), some v_axes, some v_lit, some v_dim, some v_left, some v_right_here, none, none, none, none, none, none, none, none, none, none] ∧ Ex F F1 ∧ Cov c F1 [(p_spring_here, cLst rInt spring_here_j)] H1 ∧ (rLst (rTup K rInt)).r F1 v_left left_j ∧ (rLst (rTup K rInt)).r F1 v_right_here right_here_j) ?_ ?_
  ·
    have hm := hj
    have eJ23 : Ex F F := Evl.Ex.refl F
    obtain ⟨⟨b, spring_here_n⟩, hb, hm⟩ := bind_some hm
    refine a_ifS (cs' := (fun spring_here => [(p_spring_here, cLst rInt spring_here)])) (st_test (cs := (fun spring_here => [(p_spring_here, cLst rInt spring_here)])) (s := spring_here) (sm_op (cs := (fun spring_here => [(p_spring_here, cLst rInt spring_here)])) (s := spring_here) vo_eqI (sm_Mcall1 (cs := (fun spring_here => [(p_spring_here, cLst rInt spring_here)])) (s := spring_here) (cell := fun z => cLst rInt z) (i0 := 0) (j0 := 0) rfl (fun _ => rfl) (fun _ _ => rfl) (EM.sm (cs := (fun spring_here => [(p_spring_here, cLst rInt spring_here)])) (s := spring_here) em_int)) fun spring_here => (EM.sm (cs := (fun spring_here => [(p_spring_here, cLst rInt spring_here)])) (s := spring_here) em_int))) hb k (fun eb F H e k => ?_) (fun eb F H e k => ?_)
    ·
      subst eb
      dsimp only at hm
      have hm := hT hm
      obtain ⟨spring_here, ez_⟩ : ∃ z, z = spring_here_n := ⟨_, rfl⟩; subst ez_
      have k : Cov c F [(p_spring_here, cLst rInt spring_here)] H := k
      have r_lit := (rLst (rTup K rInt)).up e r_lit
      have r_dim := (rLst (rTup K rInt)).up e r_dim
      have r_left := (rLst (rTup K rInt)).up e r_left
      have r_right_here := (rLst (rTup K rInt)).up e r_right_here
      have eJ23 := eJ23.trans e
      obtain ⟨left_n, hx, hm⟩ := bind_some hm
      refine q_set ((ef_cat ((em_var (i := 2) rfl r_lit)).es ((ef_lc (K := K) (t := (fun (spot : (List Int)) => (o2 notInDG (some spot) (o2 catG (some lit) (some dim))))) (f := fun (spot : (List Int)) => (some spot)) (S := (fun d F1 σ2 => ∃ v_spot, σ2 = [some (.ref p_spring_here), some v_axes, some v_lit, some v_dim, some v_left, some v_right_here, none, none, none, none, none, none, none, none, some v_spot, none] ∧ (rTup K rInt).r F1 v_spot d)) (ei_list (em_var (i := 4) rfl r_left)) (gt_name (fun _ => rfl)) (fun d F1 σ2 hs => by obtain ⟨_, rfl, _⟩ := hs; rfl) (by intro spot F1 σ2 e1 hs; obtain ⟨v_spot, rfl, r_spot⟩ := hs; have r_lit := (rLst (rTup K rInt)).up e1 r_lit; have r_dim := (rLst (rTup K rInt)).up e1 r_dim; have r_left := (rLst (rTup K rInt)).up e1 r_left; have r_right_here := (rLst (rTup K rInt)).up e1 r_right_here; exact (et_test (em_notInD (dq_tup dq_int) (Nat.le_of_ble_eq_true rfl) (em_var (i := 14) rfl r_spot) ((ef_cat ((em_var (i := 2) rfl r_lit)).es ((em_var (i := 3) rfl r_dim)).es)).em.el))) (by intro spot F1 σ2 e1 hs; obtain ⟨v_spot, rfl, r_spot⟩ := hs; have r_lit := (rLst (rTup K rInt)).up e1 r_lit; have r_dim := (rLst (rTup K rInt)).up e1 r_dim; have r_left := (rLst (rTup K rInt)).up e1 r_left; have r_right_here := (rLst (rTup K rInt)).up e1 r_right_here; exact (em_var (i := 14) rfl r_spot)))).em.es)).em hx k fun v_left F H e k r_left => ?_
      obtain ⟨left, ez_⟩ : ∃ z, z = left_n := ⟨_, rfl⟩; subst ez_
      show (_ : TS) _ [some (.ref p_spring_here), some v_axes, some v_lit, some v_dim, some v_left, some v_right_here, none, none, none, none, none, none, none, none, none, none] _
      have r_lit := (rLst (rTup K rInt)).up e r_lit
      have r_dim := (rLst (rTup K rInt)).up e r_dim
      have r_right_here := (rLst (rTup K rInt)).up e r_right_here
      have eJ23 := eJ23.trans e
      obtain ⟨⟨right_here_n, spring_here_n⟩, hx, hm⟩ := bind_some hm
      refine a_setS (cs' := (fun spring_here => [(p_spring_here, cLst rInt spring_here)])) (SF.sm (cs := (fun spring_here => [(p_spring_here, cLst rInt spring_here)])) (s := spring_here) (sf_lcT (K := K) (cs := (fun spring_here => [(p_spring_here, cLst rInt spring_here)])) (s := spring_here) (t := fun (spot : (List Int)) => fun spring_here => (s2 (fun a b s => sK s (gtG a b)) (s1 (fun a0 s => m_sip s a0) (sP (some 8) spring_here)) fun spring_here => (sP (some 0) spring_here))) (f := fun (spot : (List Int)) => fun spring_here => (sP (some spot) spring_here)) (S := (fun d F1 σ2 => ∃ v_spot, σ2 = [some (.ref p_spring_here), some v_axes, some v_lit, some v_dim, some v_left, some v_right_here, none, none, none, none, none, none, none, none, some v_spot, none] ∧ (rTup K rInt).r F1 v_spot d)) (ei_list (em_var (i := 3) rfl r_dim)) (gt_name (fun _ => rfl)) (fun d F1 σ2 hs => by obtain ⟨_, rfl, _⟩ := hs; rfl) (by intro spot F1 σ2 spring_here e1 hs; obtain ⟨v_spot, rfl, r_spot⟩ := hs; have r_lit := (rLst (rTup K rInt)).up e1 r_lit; have r_dim := (rLst (rTup K rInt)).up e1 r_dim; have r_left := (rLst (rTup K rInt)).up e1 r_left; have r_right_here := (rLst (rTup K rInt)).up e1 r_right_here; exact (st_test (cs := (fun spring_here => [(p_spring_here, cLst rInt spring_here)])) (s := spring_here) (sm_op (cs := (fun spring_here => [(p_spring_here, cLst rInt spring_here)])) (s := spring_here) vo_gt (sm_Mcall1 (cs := (fun spring_here => [(p_spring_here, cLst rInt spring_here)])) (s := spring_here) (cell := fun z => cLst rInt z) (i0 := 0) (j0 := 0) rfl (fun _ => rfl) (fun _ _ => rfl) (EM.sm (cs := (fun spring_here => [(p_spring_here, cLst rInt spring_here)])) (s := spring_here) em_int)) fun spring_here => (EM.sm (cs := (fun spring_here => [(p_spring_here, cLst rInt spring_here)])) (s := spring_here) em_int)))) (by intro spot F1 σ2 spring_here e1 hs; obtain ⟨v_spot, rfl, r_spot⟩ := hs; have r_lit := (rLst (rTup K rInt)).up e1 r_lit; have r_dim := (rLst (rTup K rInt)).up e1 r_dim; have r_left := (rLst (rTup K rInt)).up e1 r_left; have r_right_here := (rLst (rTup K rInt)).up e1 r_right_here; exact (EM.sm (cs := (fun spring_here => [(p_spring_here, cLst rInt spring_here)])) (s := spring_here) (em_var (i := 14) rfl r_spot))) (fun _ _ => rfl))) hx k fun v_right_here F H e k r_right_here => ?_
      obtain ⟨right_here, ez_⟩ : ∃ z, z = right_here_n := ⟨_, rfl⟩; subst ez_
      obtain ⟨spring_here, ez_⟩ : ∃ z, z = spring_here_n := ⟨_, rfl⟩; subst ez_
      have k : Cov c F [(p_spring_here, cLst rInt spring_here)] H := k
      have r_lit := (rLst (rTup K rInt)).up e r_lit
      have r_dim := (rLst (rTup K rInt)).up e r_dim
      have r_left := (rLst (rTup K rInt)).up e r_left
      have eJ23 := eJ23.trans e
      have hm := Option.some.inj hm
      cases hm
      exact ⟨F, v_left, v_right_here, rfl, eJ23, k, r_left, r_right_here⟩
    ·
      subst eb
      dsimp only at hm
      have hm := hF hm
      obtain ⟨spring_here, ez_⟩ : ∃ z, z = spring_here_n := ⟨_, rfl⟩; subst ez_
      have k : Cov c F [(p_spring_here, cLst rInt spring_here)] H := k
      have r_lit := (rLst (rTup K rInt)).up e r_lit
      have r_dim := (rLst (rTup K rInt)).up e r_dim
      have r_left := (rLst (rTup K rInt)).up e r_left
      have r_right_here := (rLst (rTup K rInt)).up e r_right_here
      have eJ23 := eJ23.trans e
      show Ends.nx _ _ _
      have hm := Option.some.inj hm
      cases hm
      exact ⟨F, v_left, v_right_here, rfl, eJ23, k, r_left, r_right_here⟩
  rintro σ1 H ⟨F, v_left, v_right_here, rfl, e, k, r_left, r_right_here⟩
  clear hj
  obtain ⟨left, ez_⟩ : ∃ z, z = left_j := ⟨_, rfl⟩; subst ez_
  obtain ⟨right_here, ez_⟩ : ∃ z, z = right_here_j := ⟨_, rfl⟩; subst ez_
  obtain ⟨spring_here, ez_⟩ : ∃ z, z = spring_here_j := ⟨_, rfl⟩; subst ez_
  have r_lit := (rLst (rTup K rInt)).up e r_lit
  have r_dim := (rLst (rTup K rInt)).up e r_dim
  obtain ⟨one_n, hx, hm⟩ := bind_some hm
  refine q_set (em_make4_3 (em_varf (i := 1) fl_int rfl r_axes) (em_var (i := 2) rfl r_lit) (em_var (i := 3) rfl r_dim)) hx k fun v_one F H e k r_one => ?_
  obtain ⟨one, ez_⟩ : ∃ z, z = one_n := ⟨_, rfl⟩; subst ez_
  show (_ : TS) _ [some (.ref p_spring_here), some v_axes, some v_lit, some v_dim, some v_left, some v_right_here, some v_one, none, none, none, none, none, none, none, none, none] _
  have r_lit := (rLst (rTup K rInt)).up e r_lit
  have r_dim := (rLst (rTup K rInt)).up e r_dim
  have r_left := (rLst (rTup K rInt)).up e r_left
  have r_right_here := (rLst (rTup K rInt)).up e r_right_here
  obtain ⟨other_n, hx, hm⟩ := bind_some hm
  refine q_set (em_make4_3 (em_varf (i := 1) fl_int rfl r_axes) (em_var (i := 4) rfl r_left) (em_var (i := 5) rfl r_right_here)) hx k fun v_other F H e k r_other => ?_
  obtain ⟨other, ez_⟩ : ∃ z, z = other_n := ⟨_, rfl⟩; subst ez_
  show (_ : TS) _ [some (.ref p_spring_here), some v_axes, some v_lit, some v_dim, some v_left, some v_right_here, some v_one, some v_other, none, none, none, none, none, none, none, none] _
  have r_lit := (rLst (rTup K rInt)).up e r_lit
  have r_dim := (rLst (rTup K rInt)).up e r_dim
  have r_left := (rLst (rTup K rInt)).up e r_left
  have r_right_here := (rLst (rTup K rInt)).up e r_right_here
  have r_one := (rO4 (He.ga K "Picture") "dimension" "words" "seen_places" "hidden_places" rInt (rDic rStr) (rLst (rTup K rInt)) (rLst (rTup K rInt))).up e r_one
  obtain ⟨⟨grid_n, spring_here_n⟩, hx, hm⟩ := bind_some hm
  refine q_setS (cs' := (fun spring_here => [(p_spring_here, cLst rInt spring_here)])) (sm_Mcall1 (cs := (fun spring_here => [(p_spring_here, cLst rInt spring_here)])) (s := spring_here) (cell := fun z => cLst rInt z) (i0 := 0) (j0 := 0) rfl (fun _ => rfl) (fun _ _ => rfl) (EM.sm (cs := (fun spring_here => [(p_spring_here, cLst rInt spring_here)])) (s := spring_here) (em_varf (i := 1) fl_int rfl r_axes))) hx k fun v_grid F H e k r_grid => ?_
  obtain ⟨grid, ez_⟩ : ∃ z, z = grid_n := ⟨_, rfl⟩; subst ez_
  obtain ⟨spring_here, ez_⟩ : ∃ z, z = spring_here_n := ⟨_, rfl⟩; subst ez_
  have k : Cov c F [(p_spring_here, cLst rInt spring_here)] H := k
  show (_ : TS) _ [some (.ref p_spring_here), some v_axes, some v_lit, some v_dim, some v_left, some v_right_here, some v_one, some v_other, some v_grid, none, none, none, none, none, none, none] _
  have r_lit := (rLst (rTup K rInt)).up e r_lit
  have r_dim := (rLst (rTup K rInt)).up e r_dim
  have r_left := (rLst (rTup K rInt)).up e r_left
  have r_right_here := (rLst (rTup K rInt)).up e r_right_here
  have r_one := (rO4 (He.ga K "Picture") "dimension" "words" "seen_places" "hidden_places" rInt (rDic rStr) (rLst (rTup K rInt)) (rLst (rTup K rInt))).up e r_one
  have r_other := (rO4 (He.ga K "Picture") "dimension" "words" "seen_places" "hidden_places" rInt (rDic rStr) (rLst (rTup K rInt)) (rLst (rTup K rInt))).up e r_other
  obtain ⟨⟨vector_n, spring_here_n⟩, hx, hm⟩ := bind_some hm
  refine q_setS (cs' := (fun spring_here => [(p_spring_here, cLst rInt spring_here)])) (sm_tuple (cs := (fun spring_here => [(p_spring_here, cLst rInt spring_here)])) (s := spring_here) (SF.sm (cs := (fun spring_here => [(p_spring_here, cLst rInt spring_here)])) (s := spring_here) (sf_lc (K := K) (cs := (fun spring_here => [(p_spring_here, cLst rInt spring_here)])) (s := spring_here) (f := fun (k_ : Int) => fun spring_here => (s1 (fun a0 s => m_far s a0) (s2 (fun a b s => sK s (ixG a b)) (sP (some [2, 9, ((10 : Int) ^ 39)]) spring_here) fun spring_here => (s1 (fun a0 s => m_sip s a0) (sP (some 3) spring_here))))) (S := (fun d F1 σ2 => ∃ v_k_, σ2 = [some (.ref p_spring_here), some v_axes, some v_lit, some v_dim, some v_left, some v_right_here, some v_one, some v_other, some v_grid, none, none, none, none, none, none, some v_k_] ∧ rInt.r F1 v_k_ d)) (ei_rng1 (em_varf (i := 1) fl_int rfl r_axes)) (gt_name (fun _ => rfl)) (fun d F1 σ2 hs => by obtain ⟨_, rfl, _⟩ := hs; rfl) (by intro k_ F1 σ2 spring_here e1 hs; obtain ⟨v_k_, rfl, r_k_⟩ := hs; have r_lit := (rLst (rTup K rInt)).up e1 r_lit; have r_dim := (rLst (rTup K rInt)).up e1 r_dim; have r_left := (rLst (rTup K rInt)).up e1 r_left; have r_right_here := (rLst (rTup K rInt)).up e1 r_right_here; have r_one := (rO4 (He.ga K "Picture") "dimension" "words" "seen_places" "hidden_places" rInt (rDic rStr) (rLst (rTup K rInt)) (rLst (rTup K rInt))).up e1 r_one; have r_other := (rO4 (He.ga K "Picture") "dimension" "words" "seen_places" "hidden_places" rInt (rDic rStr) (rLst (rTup K rInt)) (rLst (rTup K rInt))).up e1 r_other; have r_grid := (rLst (rLst rInt)).up e1 r_grid; exact (sm_Mcall1 (cs := (fun spring_here => [(p_spring_here, cLst rInt spring_here)])) (s := spring_here) (cell := fun z => cLst rInt z) (i0 := 0) (j0 := 0) rfl (fun _ => rfl) (fun _ _ => rfl) (sm_ix (cs := (fun spring_here => [(p_spring_here, cLst rInt spring_here)])) (s := spring_here) (EM.sm (cs := (fun spring_here => [(p_spring_here, cLst rInt spring_here)])) (s := spring_here) ((ef_lst (ea_cons em_int (ea_cons em_int (ea_cons (em_powC (n := 39) rfl (by decide) (by decide)) ea_nil))))).em) fun spring_here => (sm_Mcall1 (cs := (fun spring_here => [(p_spring_here, cLst rInt spring_here)])) (s := spring_here) (cell := fun z => cLst rInt z) (i0 := 0) (j0 := 0) rfl (fun _ => rfl) (fun _ _ => rfl) (EM.sm (cs := (fun spring_here => [(p_spring_here, cLst rInt spring_here)])) (s := spring_here) em_int))))) (fun _ _ => rfl)))) hx k fun v_vector F H e k r_vector => ?_
  obtain ⟨vector, ez_⟩ : ∃ z, z = vector_n := ⟨_, rfl⟩; subst ez_
  obtain ⟨spring_here, ez_⟩ : ∃ z, z = spring_here_n := ⟨_, rfl⟩; subst ez_
  have k : Cov c F [(p_spring_here, cLst rInt spring_here)] H := k
  show (_ : TS) _ [some (.ref p_spring_here), some v_axes, some v_lit, some v_dim, some v_left, some v_right_here, some v_one, some v_other, some v_grid, some v_vector, none, none, none, none, none, none] _
  have r_lit := (rLst (rTup K rInt)).up e r_lit
  have r_dim := (rLst (rTup K rInt)).up e r_dim
  have r_left := (rLst (rTup K rInt)).up e r_left
  have r_right_here := (rLst (rTup K rInt)).up e r_right_here
  have r_one := (rO4 (He.ga K "Picture") "dimension" "words" "seen_places" "hidden_places" rInt (rDic rStr) (rLst (rTup K rInt)) (rLst (rTup K rInt))).up e r_one
  have r_other := (rO4 (He.ga K "Picture") "dimension" "words" "seen_places" "hidden_places" rInt (rDic rStr) (rLst (rTup K rInt)) (rLst (rTup K rInt))).up e r_other
  have r_grid := (rLst (rLst rInt)).up e r_grid
  obtain ⟨b, hb, hm⟩ := bind_some hm
  refine q_ife (et_or (et_not (et_B (em_Pcall4t (em_var (i := 6) rfl r_one) (em_var (i := 7) rfl r_other) (em_var (i := 8) rfl r_grid) (em_var (i := 9) rfl r_vector)))) (et_not (et_B (em_Pcall4t (em_var (i := 7) rfl r_other) (em_var (i := 6) rfl r_one) (em_var (i := 8) rfl r_grid) (em_var (i := 9) rfl r_vector))))) hb k (fun eb F H e k => ?_) (fun eb F H e k => ?_)
  ·
    subst eb
    have hm := hT hm
    have r_lit := (rLst (rTup K rInt)).up e r_lit
    have r_dim := (rLst (rTup K rInt)).up e r_dim
    have r_left := (rLst (rTup K rInt)).up e r_left
    have r_right_here := (rLst (rTup K rInt)).up e r_right_here
    have r_one := (rO4 (He.ga K "Picture") "dimension" "words" "seen_places" "hidden_places" rInt (rDic rStr) (rLst (rTup K rInt)) (rLst (rTup K rInt))).up e r_one
    have r_other := (rO4 (He.ga K "Picture") "dimension" "words" "seen_places" "hidden_places" rInt (rDic rStr) (rLst (rTup K rInt)) (rLst (rTup K rInt))).up e r_other
    have r_grid := (rLst (rLst rInt)).up e r_grid
    have r_vector := (rTup K rInt).up e r_vector
    obtain ⟨rv, hv, hm⟩ := bind_some hm
    have hm := Option.some.inj hm
    cases hm
    exact a_ret em_bl hv k fun v F H e k r => hQ v F H (k.keepN 1) r
  ·
    subst eb
    have hm := hF hm
    have r_lit := (rLst (rTup K rInt)).up e r_lit
    have r_dim := (rLst (rTup K rInt)).up e r_dim
    have r_left := (rLst (rTup K rInt)).up e r_left
    have r_right_here := (rLst (rTup K rInt)).up e r_right_here
    have r_one := (rO4 (He.ga K "Picture") "dimension" "words" "seen_places" "hidden_places" rInt (rDic rStr) (rLst (rTup K rInt)) (rLst (rTup K rInt))).up e r_one
    have r_other := (rO4 (He.ga K "Picture") "dimension" "words" "seen_places" "hidden_places" rInt (rDic rStr) (rLst (rTup K rInt)) (rLst (rTup K rInt))).up e r_other
    have r_grid := (rLst (rLst rInt)).up e r_grid
    have r_vector := (rTup K rInt).up e r_vector
    obtain ⟨⟨⟨first_n, ahead_n⟩, spring_here_n⟩, hx, hm⟩ := bind_some hm
    refine q_unp2S (cs' := (fun spring_here => [(p_spring_here, cLst rInt spring_here)])) (sm_Mcall1 (cs := (fun spring_here => [(p_spring_here, cLst rInt spring_here)])) (s := spring_here) (cell := fun z => cLst rInt z) (i0 := 0) (j0 := 0) rfl (fun _ => rfl) (fun _ _ => rfl) (EM.sm (cs := (fun spring_here => [(p_spring_here, cLst rInt spring_here)])) (s := spring_here) (em_varf (i := 1) fl_int rfl r_axes))) hx k fun v_first v_ahead F H e k r_first r_ahead => ?_
    obtain ⟨first, ez_⟩ : ∃ z, z = first_n := ⟨_, rfl⟩; subst ez_
    obtain ⟨ahead, ez_⟩ : ∃ z, z = ahead_n := ⟨_, rfl⟩; subst ez_
    obtain ⟨spring_here, ez_⟩ : ∃ z, z = spring_here_n := ⟨_, rfl⟩; subst ez_
    have k : Cov c F [(p_spring_here, cLst rInt spring_here)] H := k
    show (_ : TS) _ [some (.ref p_spring_here), some v_axes, some v_lit, some v_dim, some v_left, some v_right_here, some v_one, some v_other, some v_grid, some v_vector, some v_first, some v_ahead, none, none, none, none] _
    have r_lit := (rLst (rTup K rInt)).up e r_lit
    have r_dim := (rLst (rTup K rInt)).up e r_dim
    have r_left := (rLst (rTup K rInt)).up e r_left
    have r_right_here := (rLst (rTup K rInt)).up e r_right_here
    have r_one := (rO4 (He.ga K "Picture") "dimension" "words" "seen_places" "hidden_places" rInt (rDic rStr) (rLst (rTup K rInt)) (rLst (rTup K rInt))).up e r_one
    have r_other := (rO4 (He.ga K "Picture") "dimension" "words" "seen_places" "hidden_places" rInt (rDic rStr) (rLst (rTup K rInt)) (rLst (rTup K rInt))).up e r_other
    have r_grid := (rLst (rLst rInt)).up e r_grid
    have r_vector := (rTup K rInt).up e r_vector
    obtain ⟨line_here_n, hx, hm⟩ := bind_some hm
    refine q_set (em_eq (m' := ((mkX finO2 (m_Line___init__ (none, none) first ahead)).bind okG)) (em_Xmake mkd_O2 (eag_cons (em_var (i := 10) rfl r_first) (eag_cons (em_var (i := 11) rfl r_ahead) eag_nil))) rfl) hx k fun v_line_here F H e k r_line_here => ?_
    obtain ⟨line_here, ez_⟩ : ∃ z, z = line_here_n := ⟨_, rfl⟩; subst ez_
    show (_ : TS) _ [some (.ref p_spring_here), some v_axes, some v_lit, some v_dim, some v_left, some v_right_here, some v_one, some v_other, some v_grid, some v_vector, some v_first, some v_ahead, some v_line_here, none, none, none] _
    have r_lit := (rLst (rTup K rInt)).up e r_lit
    have r_dim := (rLst (rTup K rInt)).up e r_dim
    have r_left := (rLst (rTup K rInt)).up e r_left
    have r_right_here := (rLst (rTup K rInt)).up e r_right_here
    have r_one := (rO4 (He.ga K "Picture") "dimension" "words" "seen_places" "hidden_places" rInt (rDic rStr) (rLst (rTup K rInt)) (rLst (rTup K rInt))).up e r_one
    have r_other := (rO4 (He.ga K "Picture") "dimension" "words" "seen_places" "hidden_places" rInt (rDic rStr) (rLst (rTup K rInt)) (rLst (rTup K rInt))).up e r_other
    have r_grid := (rLst (rLst rInt)).up e r_grid
    have r_vector := (rTup K rInt).up e r_vector
    have r_first := (rTup K rInt).up e r_first
    have r_ahead := (rTup K rInt).up e r_ahead
    obtain ⟨text_n, hx, hm⟩ := bind_some hm
    refine q_set (em_Pcall1t (em_var (i := 12) rfl r_line_here)) hx k fun v_text F H e k r_text => ?_
    obtain ⟨text, ez_⟩ : ∃ z, z = text_n := ⟨_, rfl⟩; subst ez_
    show (_ : TS) _ [some (.ref p_spring_here), some v_axes, some v_lit, some v_dim, some v_left, some v_right_here, some v_one, some v_other, some v_grid, some v_vector, some v_first, some v_ahead, some v_line_here, some v_text, none, none] _
    have r_lit := (rLst (rTup K rInt)).up e r_lit
    have r_dim := (rLst (rTup K rInt)).up e r_dim
    have r_left := (rLst (rTup K rInt)).up e r_left
    have r_right_here := (rLst (rTup K rInt)).up e r_right_here
    have r_one := (rO4 (He.ga K "Picture") "dimension" "words" "seen_places" "hidden_places" rInt (rDic rStr) (rLst (rTup K rInt)) (rLst (rTup K rInt))).up e r_one
    have r_other := (rO4 (He.ga K "Picture") "dimension" "words" "seen_places" "hidden_places" rInt (rDic rStr) (rLst (rTup K rInt)) (rLst (rTup K rInt))).up e r_other
    have r_grid := (rLst (rLst rInt)).up e r_grid
    have r_vector := (rTup K rInt).up e r_vector
    have r_first := (rTup K rInt).up e r_first
    have r_ahead := (rTup K rInt).up e r_ahead
    have r_line_here := (rO2 (He.ga K "Line") "origin" "stride" (rTup K rInt) (rTup K rInt)).up e r_line_here
    obtain ⟨b, hb, hm⟩ := bind_some hm
    refine q_ife (et_or (et_not (et_test (em_op (vo_eqO objP_O2) (em_eq (m' := ((m_read_line text).bind okG)) (em_Xcall (eag_cons (em_varf (i := 13) fl_str rfl r_text) eag_nil)) rfl) (em_var (i := 12) rfl r_line_here)))) (et_test (em_op vo_neS (em_Pcall1 (em_eq (m' := ((m_read_line text).bind okG)) (em_Xcall (eag_cons (em_varf (i := 13) fl_str rfl r_text) eag_nil)) rfl)) (em_varf (i := 13) fl_str rfl r_text)))) hb k (fun eb F H e k => ?_) (fun eb F H e k => ?_)
    ·
      subst eb
      have hm := hT hm
      have r_lit := (rLst (rTup K rInt)).up e r_lit
      have r_dim := (rLst (rTup K rInt)).up e r_dim
      have r_left := (rLst (rTup K rInt)).up e r_left
      have r_right_here := (rLst (rTup K rInt)).up e r_right_here
      have r_one := (rO4 (He.ga K "Picture") "dimension" "words" "seen_places" "hidden_places" rInt (rDic rStr) (rLst (rTup K rInt)) (rLst (rTup K rInt))).up e r_one
      have r_other := (rO4 (He.ga K "Picture") "dimension" "words" "seen_places" "hidden_places" rInt (rDic rStr) (rLst (rTup K rInt)) (rLst (rTup K rInt))).up e r_other
      have r_grid := (rLst (rLst rInt)).up e r_grid
      have r_vector := (rTup K rInt).up e r_vector
      have r_first := (rTup K rInt).up e r_first
      have r_ahead := (rTup K rInt).up e r_ahead
      have r_line_here := (rO2 (He.ga K "Line") "origin" "stride" (rTup K rInt) (rTup K rInt)).up e r_line_here
      obtain ⟨rv, hv, hm⟩ := bind_some hm
      have hm := Option.some.inj hm
      cases hm
      exact a_ret em_bl hv k fun v F H e k r => hQ v F H (k.keepN 1) r
    ·
      subst eb
      have hm := hF hm
      have r_lit := (rLst (rTup K rInt)).up e r_lit
      have r_dim := (rLst (rTup K rInt)).up e r_dim
      have r_left := (rLst (rTup K rInt)).up e r_left
      have r_right_here := (rLst (rTup K rInt)).up e r_right_here
      have r_one := (rO4 (He.ga K "Picture") "dimension" "words" "seen_places" "hidden_places" rInt (rDic rStr) (rLst (rTup K rInt)) (rLst (rTup K rInt))).up e r_one
      have r_other := (rO4 (He.ga K "Picture") "dimension" "words" "seen_places" "hidden_places" rInt (rDic rStr) (rLst (rTup K rInt)) (rLst (rTup K rInt))).up e r_other
      have r_grid := (rLst (rLst rInt)).up e r_grid
      have r_vector := (rTup K rInt).up e r_vector
      have r_first := (rTup K rInt).up e r_first
      have r_ahead := (rTup K rInt).up e r_ahead
      have r_line_here := (rO2 (He.ga K "Line") "origin" "stride" (rTup K rInt) (rTup K rInt)).up e r_line_here
      obtain ⟨b, hb, hm⟩ := bind_some hm
      refine q_ife (et_or (et_not (et_B (em_Pcall2t em_int (em_varf (i := 13) fl_str rfl r_text)))) (et_or (et_not (et_B (em_Pcall2t em_int (em_varf (i := 13) fl_str rfl r_text)))) (et_not (et_B (em_Pcall2 em_int (em_Pcall1t (em_var (i := 6) rfl r_one))))))) hb k (fun eb F H e k => ?_) (fun eb F H e k => ?_)
      ·
        subst eb
        have hm := hT hm
        have r_lit := (rLst (rTup K rInt)).up e r_lit
        have r_dim := (rLst (rTup K rInt)).up e r_dim
        have r_left := (rLst (rTup K rInt)).up e r_left
        have r_right_here := (rLst (rTup K rInt)).up e r_right_here
        have r_one := (rO4 (He.ga K "Picture") "dimension" "words" "seen_places" "hidden_places" rInt (rDic rStr) (rLst (rTup K rInt)) (rLst (rTup K rInt))).up e r_one
        have r_other := (rO4 (He.ga K "Picture") "dimension" "words" "seen_places" "hidden_places" rInt (rDic rStr) (rLst (rTup K rInt)) (rLst (rTup K rInt))).up e r_other
        have r_grid := (rLst (rLst rInt)).up e r_grid
        have r_vector := (rTup K rInt).up e r_vector
        have r_first := (rTup K rInt).up e r_first
        have r_ahead := (rTup K rInt).up e r_ahead
        have r_line_here := (rO2 (He.ga K "Line") "origin" "stride" (rTup K rInt) (rTup K rInt)).up e r_line_here
        obtain ⟨rv, hv, hm⟩ := bind_some hm
        have hm := Option.some.inj hm
        cases hm
        exact a_ret em_bl hv k fun v F H e k r => hQ v F H (k.keepN 1) r
      ·
        subst eb
        have hm := hF hm
        have r_lit := (rLst (rTup K rInt)).up e r_lit
        have r_dim := (rLst (rTup K rInt)).up e r_dim
        have r_left := (rLst (rTup K rInt)).up e r_left
        have r_right_here := (rLst (rTup K rInt)).up e r_right_here
        have r_one := (rO4 (He.ga K "Picture") "dimension" "words" "seen_places" "hidden_places" rInt (rDic rStr) (rLst (rTup K rInt)) (rLst (rTup K rInt))).up e r_one
        have r_other := (rO4 (He.ga K "Picture") "dimension" "words" "seen_places" "hidden_places" rInt (rDic rStr) (rLst (rTup K rInt)) (rLst (rTup K rInt))).up e r_other
        have r_grid := (rLst (rLst rInt)).up e r_grid
        have r_vector := (rTup K rInt).up e r_vector
        have r_first := (rTup K rInt).up e r_first
        have r_ahead := (rTup K rInt).up e r_ahead
        have r_line_here := (rO2 (He.ga K "Line") "origin" "stride" (rTup K rInt) (rTup K rInt)).up e r_line_here
        obtain ⟨rv, hv, hm⟩ := bind_some hm
        have hm := Option.some.inj hm
        cases hm
        exact a_ret (em_andV (em_Pcall2 em_int (em_Pcall1t (em_var (i := 6) rfl r_one))) (em_andV (em_Pcall2 em_int (em_Pcall1t (em_var (i := 10) rfl r_first))) (em_Pcall2 em_int (em_Pcall1t (em_var (i := 10) rfl r_first))))) hv k fun v F H e k r => hQ v F H (k.keepN 1) r
abbrev s_law : Stmt := topS 60
abbrev N_law : List PySem.Str := ["_law_script", "_law_cells", "_law_k"]
theorem sc_law : FnScope N_law ["_law_script"] (defScope s_law) := ⟨rfl, rfl, rfl, by decide +kernel, rfl, by decide +kernel, by decide +kernel⟩
def sp_law (K : PySem.W.Frag) : Sp := (Psp1 (rLsW K rInt) rBool m_law)
theorem ok_law {P : Program} {w : World} {K : PySem.W.Frag} {mg : PySem.Str → Option Value} {base : Heap} (T : Txt mg) (L : ClsF K mg) (E_ : ErrF K mg erL) (C_spring : Cal P w K mg base 1 "_law_spring" ["_law_cell", "_law_k"] (sp_spring K) (fun _ => True)) (C_right : Cal P w K mg base 8 "_law_right" ["_law_spring_here"] (sp_right K) (fun _ => True)) {f : Addr} {fd : FuncData} (Fn : FnP K "law" s_law f fd) : FnOk P w K mg base CX0 9 f fd ["_law_script"] (sp_law K) := by
  obtain ⟨f_spring, fd_spring, G_spring, g_spring, kp_spring, b_spring, _⟩ := C_spring.ex
  obtain ⟨f_right, fd_right, G_right, g_right, kp_right, b_right, _⟩ := C_right.ex
  refine Fn.ok sc_law (fun vs H Q E h => Psp1_len h) (fun cdv A outer s H vs Q E hr h => ?_)
  obtain ⟨F, v_script, script, res, rfl, ex, r_script, hm, hQ⟩ := h
  have k := Cov.init ex
  generalize hc : Act.mk H F [] = c at k hQ
  unfold m_law at hm
  refine ⟨_, PSs.nox (pss_cons (ps_set (i := 1) sc_law.nd rfl (Or.inl rfl) (pe_op op_cat (pe_slice (sl_listK K rfl) (pv 0) po_none (po_some pe_int)) (pe_op op_rep (pe_lst (pa_cons pe_int pa_nil)) (pe_callTy call_int1 (by rfl) T.b_int (by decide +kernel) (pa_cons (pe_cmpR op_eq (pe_callB (call_len_seqK K rfl) (by rfl) T.b_len PySem.boot_len (pa_cons (pv 0) pa_nil)) pe_int (nomark _)) pa_nil))))) (pss_cons (ps_for PassesOwn.never rfl (pi_range1 (by rfl) T.b_range (pa_cons (pe_callB (call_len_seqK K rfl) (by rfl) T.b_len PySem.boot_len (pa_cons (pv 1) pa_nil)) pa_nil)) (pg_name (i := 2) sc_law.nd rfl (Or.inl rfl)) (pss_one (ps_if (pt_not (pt_val (pe_call G_right (hr.mono (by decide)) (by rfl) g_right kp_right b_right .nil pass0 (pa_cons (pe_call G_spring (hr.mono (by decide)) (by rfl) g_spring kp_spring b_spring .nil pass0 (pa_cons (pe_ix (ix_listK K rfl) (pv 1) (pv 2) (fun _ _ => rfl)) (pa_cons (pv 2) pa_nil))) pa_nil)))) (pss_one (ps_ret pe_bl)) pss_nil))) (pss_one (ps_ret pe_bl)))), ?_⟩
  show (_ : TS) _ [some v_script, none, none] _
  obtain ⟨cells_n, hx, hm⟩ := bind_some hm
  refine q_set ((ef_cat ((ef_slice ((em_var (i := 0) rfl r_script)).elw eo_none (eo_some em_int))).em.es ((ef_rep ((ef_lst (ea_cons em_int ea_nil))).em.es (em_cb vc_intB (em_op vo_eqI (el_len ((em_var (i := 0) rfl r_script)).elw) em_int)))).em.es)).em hx k fun v_cells F H e k r_cells => ?_
  obtain ⟨cells, ez_⟩ : ∃ z, z = cells_n := ⟨_, rfl⟩; subst ez_
  show (_ : TS) _ [some v_script, some v_cells, none] _
  have r_script := (rLsW K rInt).up e r_script
  obtain ⟨l_, hl, hm⟩ := bind_some hm
  obtain ⟨out1, hf, hm⟩ := bind_some hm
  have hm1 := hm
  refine sq ?_
  refine a_loop (ei_rng1 (el_len ((em_var (i := 1) rfl r_cells)).el)) hl k hf fun F H e k => ⟨fun g σ1 F1 H1 => ∃ w_k_, σ1 = [some v_script, some v_cells, w_k_] ∧ Ex F F1 ∧ Cov c F1 [] H1, fun g => [], ?_, ?_, ?_, ?_⟩
  · exact ⟨_, rfl, Evl.Ex.refl _, k⟩
  · rintro g σ1 F1 H1 ⟨_, rfl, e1, k1⟩
    exact ⟨e1, k1⟩
  · rintro d v ⟨⟩ oo1 σ1 F1 H1 F H ⟨w_k_, rfl, eL24, _⟩ e1 k rd hm hret1 hbrk1
    have eL24 := eL24.trans e1
    have r_script := (rLsW K rInt).up (e.trans eL24) r_script
    have r_cells := (rLst rInt).up (e.trans eL24) r_cells
    obtain ⟨k_, ez_⟩ : ∃ z, z = d := ⟨_, rfl⟩; subst ez_
    obtain ⟨v_k_, ez_⟩ : ∃ z, z = v := ⟨_, rfl⟩; subst ez_
    have r_k_ := rd
    refine gn (σ1 := [some v_script, some v_cells, some v_k_]) rfl ?_
    obtain ⟨b, hb, hm⟩ := bind_some hm
    refine a_if (et_not (et_B (em_Tcall0 (em_Fcall2 (el_ix ((em_var (i := 1) rfl r_cells)).el (em_varf (i := 2) fl_int rfl r_k_)) (em_varf (i := 2) fl_int rfl r_k_)) ))) hb k (fun eb F H e k => ?_) (fun eb F H e k => ?_)
    ·
      subst eb
      have hm := hT hm
      have r_script := (rLsW K rInt).up e r_script
      have r_cells := (rLst rInt).up e r_cells
      have eL24 := eL24.trans e
      obtain ⟨rv, hv, hm⟩ := bind_some hm
      have hm := Option.some.inj hm
      subst hm
      have ho1 := hret1 _ rfl
      rw [ho1] at hm1
      have hm := Option.some.inj hm1
      cases hm
      exact a_ret em_bl hv k fun v F H e k r => hQ v F H k.dropAll r
    ·
      subst eb
      have hm := hF hm
      have r_script := (rLsW K rInt).up e r_script
      have r_cells := (rLst rInt).up e r_cells
      have eL24 := eL24.trans e
      show Ends.nx _ _ _
      have hm := Option.some.inj hm
      subst hm
      exact ⟨F, _, rfl, _, rfl, eL24, k⟩
  rintro ⟨⟩ σ1 F H eo ⟨w_k_, rfl, e1, k⟩
  subst eo
  have r_script := (rLsW K rInt).up (e.trans e1) r_script
  have r_cells := (rLst rInt).up (e.trans e1) r_cells
  refine nxh ?_
  obtain ⟨rv, hv, hm⟩ := bind_some hm
  have hm := Option.some.inj hm
  cases hm
  exact a_ret em_bl hv k fun v F H e k r => hQ v F H k.dropAll r
theorem law_end {K : PySem.W.Frag} (hp : ∀ s : List Int, s.length ≤ 63 → m_law s = some true) (H : Hp) (a : Addr) (ns : List Int) (hl : ns.length ≤ 63) (hS : SqL K H a (ns.map V.int)) : sp_law K [.ref a] H (fun v H2 => v = .bl true) (fun _ _ _ => False) :=
  ⟨H, .ref a, ns, true, rfl, Evl.Ex.refl H, ⟨a, ns.map V.int, rfl, hS, int_rs⟩, hp ns hl, fun v F2 H2 k r => r⟩
end Wk

set_option maxHeartbeats 0
namespace Wk
open PySem PySem.Spec PyProof.Rows L2 Mw Mi
def d_Picture___init__ : Hm.DefM := ⟨fun K => He.ma K (He.ga K "Picture") "__init__", "__init__", "Picture.__init__", defArgs s_Picture___init__, defBody s_Picture___init__, defScope s_Picture___init__⟩
def d_Picture___or__ : Hm.DefM := ⟨fun K => He.ma K (He.ga K "Picture") "__or__", "__or__", "Picture.__or__", defArgs s_Picture___or__, defBody s_Picture___or__, defScope s_Picture___or__⟩
def d_Picture___sub__ : Hm.DefM := ⟨fun K => He.ma K (He.ga K "Picture") "__sub__", "__sub__", "Picture.__sub__", defArgs s_Picture___sub__, defBody s_Picture___sub__, defScope s_Picture___sub__⟩
def d_Picture___len__ : Hm.DefM := ⟨fun K => He.ma K (He.ga K "Picture") "__len__", "__len__", "Picture.__len__", defArgs s_Picture___len__, defBody s_Picture___len__, defScope s_Picture___len__⟩
def d_Picture___eq__ : Hm.DefM := ⟨fun K => He.ma K (He.ga K "Picture") "__eq__", "__eq__", "Picture.__eq__", defArgs s_Picture___eq__, defBody s_Picture___eq__, defScope s_Picture___eq__⟩
def d_common_divisor : Hm.DefM := ⟨fun K => He.ga K "common_divisor", "common_divisor", "common_divisor", defArgs s_common_divisor, defBody s_common_divisor, defScope s_common_divisor⟩
def d_divisor_of : Hm.DefM := ⟨fun K => He.ga K "divisor_of", "divisor_of", "divisor_of", defArgs s_divisor_of, defBody s_divisor_of, defScope s_divisor_of⟩
def d_Line___init__ : Hm.DefM := ⟨fun K => He.ma K (He.ga K "Line") "__init__", "__init__", "Line.__init__", defArgs s_Line___init__, defBody s_Line___init__, defScope s_Line___init__⟩
def d_Line___eq__ : Hm.DefM := ⟨fun K => He.ma K (He.ga K "Line") "__eq__", "__eq__", "Line.__eq__", defArgs s_Line___eq__, defBody s_Line___eq__, defScope s_Line___eq__⟩
def d_show_place : Hm.DefM := ⟨fun K => He.ga K "show_place", "show_place", "show_place", defArgs s_show_place, defBody s_show_place, defScope s_show_place⟩
def d_Picture_size : Hm.DefM := ⟨fun K => Hm.pg K (He.ga K "Picture") "size", "size", "Picture.size", defArgs s_Picture_size, defBody s_Picture_size, defScope s_Picture_size⟩
def d_Picture_seen : Hm.DefM := ⟨fun K => Hm.pg K (He.ga K "Picture") "seen", "seen", "Picture.seen", defArgs s_Picture_seen, defBody s_Picture_seen, defScope s_Picture_seen⟩
def d_Picture_hidden : Hm.DefM := ⟨fun K => Hm.pg K (He.ga K "Picture") "hidden", "hidden", "Picture.hidden", defArgs s_Picture_hidden, defBody s_Picture_hidden, defScope s_Picture_hidden⟩
def d_show_picture : Hm.DefM := ⟨fun K => He.ga K "show_picture", "show_picture", "show_picture", defArgs s_show_picture, defBody s_show_picture, defScope s_show_picture⟩
def d_Line_start : Hm.DefM := ⟨fun K => Hm.pg K (He.ga K "Line") "start", "start", "Line.start", defArgs s_Line_start, defBody s_Line_start, defScope s_Line_start⟩
def d_Line_step : Hm.DefM := ⟨fun K => Hm.pg K (He.ga K "Line") "step", "step", "Line.step", defArgs s_Line_step, defBody s_Line_step, defScope s_Line_step⟩
def d_show_line : Hm.DefM := ⟨fun K => He.ga K "show_line", "show_line", "show_line", defArgs s_show_line, defBody s_show_line, defScope s_show_line⟩
def d_plus : Hm.DefM := ⟨fun K => He.ga K "plus", "plus", "plus", defArgs s_plus, defBody s_plus, defScope s_plus⟩
def d_determinant : Hm.DefM := ⟨fun K => He.ga K "determinant", "determinant", "determinant", defArgs s_determinant, defBody s_determinant, defScope s_determinant⟩
def d_keeps_posts : Hm.DefM := ⟨fun K => He.ga K "keeps_posts", "keeps_posts", "keeps_posts", defArgs s_keeps_posts, defBody s_keeps_posts, defScope s_keeps_posts⟩
def d_image : Hm.DefM := ⟨fun K => He.ga K "image", "image", "image", defArgs s_image, defBody s_image, defScope s_image⟩
def d_Picture_shifted : Hm.DefM := ⟨fun K => He.ma K (He.ga K "Picture") "shifted", "shifted", "Picture.shifted", defArgs s_Picture_shifted, defBody s_Picture_shifted, defScope s_Picture_shifted⟩
def d_Picture_mapped : Hm.DefM := ⟨fun K => He.ma K (He.ga K "Picture") "mapped", "mapped", "Picture.mapped", defArgs s_Picture_mapped, defBody s_Picture_mapped, defScope s_Picture_mapped⟩
def d_Picture_least : Hm.DefM := ⟨fun K => He.ma K (He.ga K "Picture") "least", "least", "Picture.least", defArgs s_Picture_least, defBody s_Picture_least, defScope s_Picture_least⟩
def d_integer_of : Hm.DefM := ⟨fun K => He.ga K "integer_of", "integer_of", "integer_of", defArgs s_integer_of, defBody s_integer_of, defScope s_integer_of⟩
def d_place_of : Hm.DefM := ⟨fun K => He.ga K "place_of", "place_of", "place_of", defArgs s_place_of, defBody s_place_of, defScope s_place_of⟩
def d_ascend : Hm.DefM := ⟨fun K => He.ga K "ascend", "ascend", "ascend", defArgs s_ascend, defBody s_ascend, defScope s_ascend⟩
def d_read_place : Hm.DefM := ⟨fun K => He.ga K "read_place", "read_place", "read_place", defArgs s_read_place, defBody s_read_place, defScope s_read_place⟩
def d_read_picture : Hm.DefM := ⟨fun K => He.ga K "read_picture", "read_picture", "read_picture", defArgs s_read_picture, defBody s_read_picture, defScope s_read_picture⟩
def d_read_line : Hm.DefM := ⟨fun K => He.ga K "read_line", "read_line", "read_line", defArgs s_read_line, defBody s_read_line, defScope s_read_line⟩
def d_spring : Hm.DefM := ⟨fun K => He.ga K "_law_spring", "_law_spring", "_law_spring", defArgs s_spring, defBody s_spring, defScope s_spring⟩
def d_sip : Hm.DefM := ⟨fun K => He.ga K "_law_sip", "_law_sip", "_law_sip", defArgs s_sip, defBody s_sip, defScope s_sip⟩
def d_far : Hm.DefM := ⟨fun K => He.ga K "_law_far", "_law_far", "_law_far", defArgs s_far, defBody s_far, defScope s_far⟩
def d_spots : Hm.DefM := ⟨fun K => He.ga K "_law_spots", "_law_spots", "_law_spots", defArgs s_spots, defBody s_spots, defScope s_spots⟩
def d_parts : Hm.DefM := ⟨fun K => He.ga K "_law_parts", "_law_parts", "_law_parts", defArgs s_parts, defBody s_parts, defScope s_parts⟩
def d_matrix : Hm.DefM := ⟨fun K => He.ga K "_law_matrix", "_law_matrix", "_law_matrix", defArgs s_matrix, defBody s_matrix, defScope s_matrix⟩
def d_line_ : Hm.DefM := ⟨fun K => He.ga K "_law_line", "_law_line", "_law_line", defArgs s_line_, defBody s_line_, defScope s_line_⟩
def d_again : Hm.DefM := ⟨fun K => He.ga K "_law_again", "_law_again", "_law_again", defArgs s_again, defBody s_again, defScope s_again⟩
def d_joined : Hm.DefM := ⟨fun K => He.ga K "_law_joined", "_law_joined", "_law_joined", defArgs s_joined, defBody s_joined, defScope s_joined⟩
def d_by_door : Hm.DefM := ⟨fun K => He.ga K "_law_by_door", "_law_by_door", "_law_by_door", defArgs s_by_door, defBody s_by_door, defScope s_by_door⟩
def d_unread : Hm.DefM := ⟨fun K => He.ga K "_law_unread", "_law_unread", "_law_unread", defArgs s_unread, defBody s_unread, defScope s_unread⟩
def d_pair_right : Hm.DefM := ⟨fun K => He.ga K "_law_pair_right", "_law_pair_right", "_law_pair_right", defArgs s_pair_right, defBody s_pair_right, defScope s_pair_right⟩
def d_right : Hm.DefM := ⟨fun K => He.ga K "_law_right", "_law_right", "_law_right", defArgs s_right, defBody s_right, defScope s_right⟩
def d_law : Hm.DefM := ⟨fun K => He.ga K "law", "law", "law", defArgs s_law, defBody s_law, defScope s_law⟩
def d_ei : Hm.DefM := ⟨fun K => eiA K, "__init__", "PostError.__init__", defArgs s_ei, defBody s_ei, defScope s_ei⟩
def fnL : List Hm.DefM := [d_Picture___init__, d_Picture___or__, d_Picture___sub__, d_Picture___len__, d_Picture___eq__, d_common_divisor, d_divisor_of, d_Line___init__, d_Line___eq__, d_show_place, d_Picture_size, d_Picture_seen, d_Picture_hidden, d_show_picture, d_Line_start, d_Line_step, d_show_line, d_plus, d_determinant, d_keeps_posts, d_image, d_Picture_shifted, d_Picture_mapped, d_Picture_least, d_integer_of, d_place_of, d_ascend, d_read_place, d_read_picture, d_read_line, d_spring, d_sip, d_far, d_spots, d_parts, d_matrix, d_line_, d_again, d_joined, d_by_door, d_unread, d_pair_right, d_right, d_law, d_ei]
def faL : List Hm.Fc := [(Hm.fa (.glo "common_divisor")), (Hm.fa (.glo "divisor_of")), (Hm.fa (.glo "show_place")), (Hm.fa (.glo "show_picture")), (Hm.fa (.glo "show_line")), (Hm.fa (.glo "plus")), (Hm.fa (.glo "determinant")), (Hm.fa (.glo "keeps_posts")), (Hm.fa (.glo "image")), (Hm.fa (.glo "integer_of")), (Hm.fa (.glo "place_of")), (Hm.fa (.glo "ascend")), (Hm.fa (.glo "read_place")), (Hm.fa (.glo "read_picture")), (Hm.fa (.glo "read_line")), (Hm.fa (.glo "_law_spring")), (Hm.fa (.glo "_law_sip")), (Hm.fa (.glo "_law_far")), (Hm.fa (.glo "_law_spots")), (Hm.fa (.glo "_law_parts")), (Hm.fa (.glo "_law_matrix")), (Hm.fa (.glo "_law_line")), (Hm.fa (.glo "_law_again")), (Hm.fa (.glo "_law_joined")), (Hm.fa (.glo "_law_by_door")), (Hm.fa (.glo "_law_unread")), (Hm.fa (.glo "_law_pair_right")), (Hm.fa (.glo "_law_right")), (Hm.fa (.glo "law")), (Hm.fa (.free "abs")), (Hm.fa (.free "int")), (Hm.fa (.free "isinstance")), (Hm.fa (.free "len")), (Hm.fa (.free "list")), (Hm.fa (.free "max")), (Hm.fa (.free "min")), (Hm.fa (.free "range")), (Hm.fa (.free "sorted")), (Hm.fa (.free "str")), (Hm.fa (.free "sum")), (Hm.fa (.free "tuple")), (Hm.fa (.str "DIGITS" "0123456789")), (Hm.fa (.glo "Line")), (Hm.fa (.cls "Line")), (Hm.insB "Line"), (Hm.kitB "Line"), (Hm.fa (.noat "Line" "origin")), (Hm.fa (.noat "Line" "stride")), (Hm.fa (.glo "Picture")), (Hm.fa (.cls "Picture")), (Hm.insB "Picture"), (Hm.kitB "Picture"), (Hm.fa (.noat "Picture" "dimension")), (Hm.fa (.noat "Picture" "words")), (Hm.fa (.noat "Picture" "seen_places")), (Hm.fa (.noat "Picture" "hidden_places")), (Hm.fa (.mkr "Picture")), (Hm.defB "Picture" "__or__"), (Hm.defB "Picture" "__sub__"), (Hm.defB "Picture" "__len__"), (Hm.defB "Picture" "__eq__"), (Hm.fa (.mkr "Line")), (Hm.defB "Line" "__eq__"), (Hm.propB "Picture" "size"), (Hm.propB "Picture" "seen"), (Hm.propB "Picture" "hidden"), (Hm.propB "Line" "start"), (Hm.propB "Line" "step"), (Hm.fa (.meth "Picture" "shifted")), (Hm.fa (.meth "Picture" "mapped")), (Hm.fa (.meth "Picture" "least")), (Mw.errB erL)]
abbrev RX : PySem.W.OpenRow := PySem.W.OpenLaw.row PySem.Challenge.rw_seenposts_k81_whole_texts_both_ways
abbrev hkX : PySem.W.Hook := Hm.hookM 5 faL fnL
def obX (s : PySem.W.SharedT) : He.AlD := Hm.obsMG 5 faL fnL (HandSHeadRun.getT s)
theorem obX_eq (s : PySem.W.SharedT) : obX s = hkX.obs s.abs := Hm.obsMG_eq (HandSHeadRun.getT_eq s)
theorem runX (w : World) : HandSHeadRun.RunEq RX (PySem.W.view RX.prog [60]) hkX obX 20000 (((["_wall", "show_place", "show_picture", "show_line", "PostError", "InvalidSize", "InvalidPlace", "DoublePlace", "InvalidMatrix", "InvalidStep", "InvalidNumber", "Conflict", "Unreadable", "common_divisor", "divisor_of", "plus", "inverse", "joined", "prime_divisors", "count_from", "line_number", "dark_remainder", "two_seen", "signed_terms", "count_terms"] : List PySem.Str) ++ (["Line", "determinant", "keeps_posts", "image", "Picture", "DIGITS", "integer_of", "place_of", "ascend", "read_place", "read_picture", "read_line", "_law_spring", "_law_sip", "_law_far", "_law_spots", "_law_parts", "_law_image", "_law_matrix", "_law_line", "_law_again", "_law_joined", "_law_by_door", "_law_unread", "_law_pair_right"] : List PySem.Str)) ++ (["_law_right"] : List PySem.Str)) w := by
  intro os
  kernel_rfl
theorem factsX {P : Program} {w : World} {K : PySem.W.Frag} {h : Heap} {mg : PySem.Str → Option Value} {f : Addr} (X : K.In h) (G : h.Ns mainGlobals mg) (hfa : mg ("law" : PySem.Str) = some (.ref f)) (c : Hm.SaysM faL fnL K) :
    ∃ fd : FuncData, (∀ (s : Shared) (v : Value), BindsTo s fd ⟨[v], []⟩ [("_law_script", v)]) ∧ ∀ base : Heap, K.In base → base.Ns mainGlobals mg → FnOk P w K mg base CX0 9 f fd ["_law_script"] (sp_law K) := by
  obtain ⟨fd_0, F_0⟩ := c.def_ 0 (d := d_Picture___init__) rfl
  obtain ⟨fd_1, F_1⟩ := c.def_ 1 (d := d_Picture___or__) rfl
  obtain ⟨fd_2, F_2⟩ := c.def_ 2 (d := d_Picture___sub__) rfl
  obtain ⟨fd_3, F_3⟩ := c.def_ 3 (d := d_Picture___len__) rfl
  obtain ⟨fd_4, F_4⟩ := c.def_ 4 (d := d_Picture___eq__) rfl
  obtain ⟨fd_5, F_5⟩ := c.def_ 5 (d := d_common_divisor) rfl
  obtain ⟨fd_6, F_6⟩ := c.def_ 6 (d := d_divisor_of) rfl
  obtain ⟨fd_7, F_7⟩ := c.def_ 7 (d := d_Line___init__) rfl
  obtain ⟨fd_8, F_8⟩ := c.def_ 8 (d := d_Line___eq__) rfl
  obtain ⟨fd_9, F_9⟩ := c.def_ 9 (d := d_show_place) rfl
  obtain ⟨fd_10, F_10⟩ := c.def_ 10 (d := d_Picture_size) rfl
  obtain ⟨fd_11, F_11⟩ := c.def_ 11 (d := d_Picture_seen) rfl
  obtain ⟨fd_12, F_12⟩ := c.def_ 12 (d := d_Picture_hidden) rfl
  obtain ⟨fd_13, F_13⟩ := c.def_ 13 (d := d_show_picture) rfl
  obtain ⟨fd_14, F_14⟩ := c.def_ 14 (d := d_Line_start) rfl
  obtain ⟨fd_15, F_15⟩ := c.def_ 15 (d := d_Line_step) rfl
  obtain ⟨fd_16, F_16⟩ := c.def_ 16 (d := d_show_line) rfl
  obtain ⟨fd_17, F_17⟩ := c.def_ 17 (d := d_plus) rfl
  obtain ⟨fd_18, F_18⟩ := c.def_ 18 (d := d_determinant) rfl
  obtain ⟨fd_19, F_19⟩ := c.def_ 19 (d := d_keeps_posts) rfl
  obtain ⟨fd_20, F_20⟩ := c.def_ 20 (d := d_image) rfl
  obtain ⟨fd_21, F_21⟩ := c.def_ 21 (d := d_Picture_shifted) rfl
  obtain ⟨fd_22, F_22⟩ := c.def_ 22 (d := d_Picture_mapped) rfl
  obtain ⟨fd_23, F_23⟩ := c.def_ 23 (d := d_Picture_least) rfl
  obtain ⟨fd_24, F_24⟩ := c.def_ 24 (d := d_integer_of) rfl
  obtain ⟨fd_25, F_25⟩ := c.def_ 25 (d := d_place_of) rfl
  obtain ⟨fd_26, F_26⟩ := c.def_ 26 (d := d_ascend) rfl
  obtain ⟨fd_27, F_27⟩ := c.def_ 27 (d := d_read_place) rfl
  obtain ⟨fd_28, F_28⟩ := c.def_ 28 (d := d_read_picture) rfl
  obtain ⟨fd_29, F_29⟩ := c.def_ 29 (d := d_read_line) rfl
  obtain ⟨fd_30, F_30⟩ := c.def_ 30 (d := d_spring) rfl
  obtain ⟨fd_31, F_31⟩ := c.def_ 31 (d := d_sip) rfl
  obtain ⟨fd_32, F_32⟩ := c.def_ 32 (d := d_far) rfl
  obtain ⟨fd_33, F_33⟩ := c.def_ 33 (d := d_spots) rfl
  obtain ⟨fd_34, F_34⟩ := c.def_ 34 (d := d_parts) rfl
  obtain ⟨fd_35, F_35⟩ := c.def_ 35 (d := d_matrix) rfl
  obtain ⟨fd_36, F_36⟩ := c.def_ 36 (d := d_line_) rfl
  obtain ⟨fd_37, F_37⟩ := c.def_ 37 (d := d_again) rfl
  obtain ⟨fd_38, F_38⟩ := c.def_ 38 (d := d_joined) rfl
  obtain ⟨fd_39, F_39⟩ := c.def_ 39 (d := d_by_door) rfl
  obtain ⟨fd_40, F_40⟩ := c.def_ 40 (d := d_unread) rfl
  obtain ⟨fd_41, F_41⟩ := c.def_ 41 (d := d_pair_right) rfl
  obtain ⟨fd_42, F_42⟩ := c.def_ 42 (d := d_right) rfl
  obtain ⟨fd_43, F_43⟩ := c.def_ 43 (d := d_law) rfl
  have T : Txt mg := ⟨He.free_ok X G (c.fact 29 (f := (Hm.fa (.free "abs"))) rfl), He.free_ok X G (c.fact 30 (f := (Hm.fa (.free "int"))) rfl), He.free_ok X G (c.fact 31 (f := (Hm.fa (.free "isinstance"))) rfl), He.free_ok X G (c.fact 32 (f := (Hm.fa (.free "len"))) rfl), He.free_ok X G (c.fact 33 (f := (Hm.fa (.free "list"))) rfl), He.free_ok X G (c.fact 34 (f := (Hm.fa (.free "max"))) rfl), He.free_ok X G (c.fact 35 (f := (Hm.fa (.free "min"))) rfl), He.free_ok X G (c.fact 36 (f := (Hm.fa (.free "range"))) rfl), He.free_ok X G (c.fact 37 (f := (Hm.fa (.free "sorted"))) rfl), He.free_ok X G (c.fact 38 (f := (Hm.fa (.free "str"))) rfl), He.free_ok X G (c.fact 39 (f := (Hm.fa (.free "sum"))) rfl), He.free_ok X G (c.fact 40 (f := (Hm.fa (.free "tuple"))) rfl)⟩
  have E_ : ErrF K mg erL := errB_ok X G (c.fact 71 (f := (Mw.errB erL)) rfl)
  obtain ⟨fd_ei, F_ei⟩ := c.def_ 44 (d := d_ei) rfl
  have L : ClsF K mg := ⟨He.str_ok X G (c.fact 41 (f := (Hm.fa (.str "DIGITS" "0123456789"))) rfl), He.cls_ok (c.fact 43 (f := (Hm.fa (.cls "Line"))) rfl), He.glo_ok X G (c.fact 42 (f := (Hm.fa (.glo "Line"))) rfl), Hm.insO_ok (He.cls_ok (c.fact 43 (f := (Hm.fa (.cls "Line"))) rfl)) (c.fact 44 (f := (Hm.insB "Line")) rfl), Hm.kit_ok (c.fact 45 (f := (Hm.kitB "Line")) rfl), He.noat_ok (c.fact 46 (f := (Hm.fa (.noat "Line" "origin"))) rfl), He.noat_ok (c.fact 47 (f := (Hm.fa (.noat "Line" "stride"))) rfl), He.cls_ok (c.fact 49 (f := (Hm.fa (.cls "Picture"))) rfl), He.glo_ok X G (c.fact 48 (f := (Hm.fa (.glo "Picture"))) rfl), Hm.insO_ok (He.cls_ok (c.fact 49 (f := (Hm.fa (.cls "Picture"))) rfl)) (c.fact 50 (f := (Hm.insB "Picture")) rfl), Hm.kit_ok (c.fact 51 (f := (Hm.kitB "Picture")) rfl), He.noat_ok (c.fact 52 (f := (Hm.fa (.noat "Picture" "dimension"))) rfl), He.noat_ok (c.fact 53 (f := (Hm.fa (.noat "Picture" "words"))) rfl), He.noat_ok (c.fact 54 (f := (Hm.fa (.noat "Picture" "seen_places"))) rfl), He.noat_ok (c.fact 55 (f := (Hm.fa (.noat "Picture" "hidden_places"))) rfl)⟩
  have e := hfa.symm.trans (He.glo_ok X G (c.fact 28 (f := (Hm.fa (.glo "law"))) rfl))
  cases e
  have b := FunD.bindsA (ps := ["_law_script"]) F_43 fun _ _ _ _ _ _ us hl => match us, hl with | [_], _ => rfl
  refine ⟨fd_43, fun s v => b s [v] rfl, fun base hb hb2 => ?_⟩
  have C_ei : CalE P w K mg base erL := ⟨_, ok_ei E_ F_ei, F_ei.bindsN (fun _ _ _ _ _ _ us hl => match us, hl with | [_, _], _ => rfl)⟩
  have C_Picture___init__ : CalI P w K mg base 1 (He.ga K "Picture") ["self", "size", "seen", "hidden"] (sp_Picture___init__ K) (fun _ => True) := ⟨_, _, ok_Picture___init__ T L E_  F_0, He.mkr_ok (c.fact 56 (f := (Hm.fa (.mkr "Picture"))) rfl), F_0.bindsN (fun _ _ _ _ _ _ us hl => match us, hl with | [_, _, _, _], _ => rfl), trivial⟩
  have C_Picture___or__ : CalOX P w K mg base 3 (He.ga K "Picture") "__or__" ["self", "other"] (sp_Picture___or__ K) (fun _ => True) := ⟨_, _, ok_Picture___or__ T L E_ C_ei C_Picture___init__ F_1, Hm.defO_ok (c.fact 57 (f := (Hm.defB "Picture" "__or__")) rfl), F_1.bindsN (fun _ _ _ _ _ _ us hl => match us, hl with | [_, _], _ => rfl), trivial⟩
  have C_Picture___sub__ : CalO P w K mg base 3 (He.ga K "Picture") "__sub__" ["self", "other"] (sp_Picture___sub__ K) (fun _ => True) := ⟨_, _, ok_Picture___sub__ T L E_ C_Picture___init__ F_2, Hm.defO_ok (c.fact 58 (f := (Hm.defB "Picture" "__sub__")) rfl), F_2.bindsN (fun _ _ _ _ _ _ us hl => match us, hl with | [_, _], _ => rfl), trivial⟩
  have C_Picture___len__ : CalO P w K mg base 1 (He.ga K "Picture") "__len__" ["self"] (sp_Picture___len__ K) (fun _ => True) := ⟨_, _, ok_Picture___len__ T L E_  F_3, Hm.defO_ok (c.fact 59 (f := (Hm.defB "Picture" "__len__")) rfl), F_3.bindsN (fun _ _ _ _ _ _ us hl => match us, hl with | [_], _ => rfl), trivial⟩
  have C_Picture___eq__ : CalO P w K mg base 1 (He.ga K "Picture") "__eq__" ["self", "other"] (sp_Picture___eq__ K) (fun _ => True) := ⟨_, _, ok_Picture___eq__ T L E_  F_4, Hm.defO_ok (c.fact 60 (f := (Hm.defB "Picture" "__eq__")) rfl), F_4.bindsN (fun _ _ _ _ _ _ us hl => match us, hl with | [_, _], _ => rfl), trivial⟩
  have C_common_divisor : Cal P w K mg base 1 "common_divisor" ["one", "other"] (sp_common_divisor K) (fun _ => True) := ⟨_, _, ok_common_divisor T L E_  F_5, He.glo_ok X G (c.fact 0 (f := (Hm.fa (.glo "common_divisor"))) rfl), F_5.kp, F_5.bindsN (fun _ _ _ _ _ _ us hl => match us, hl with | [_, _], _ => rfl), trivial⟩
  have C_divisor_of : Cal P w K mg base 2 "divisor_of" ["values"] (sp_divisor_of K) (fun _ => True) := ⟨_, _, ok_divisor_of T L E_ C_common_divisor F_6, He.glo_ok X G (c.fact 1 (f := (Hm.fa (.glo "divisor_of"))) rfl), F_6.kp, F_6.bindsN (fun _ _ _ _ _ _ us hl => match us, hl with | [_], _ => rfl), trivial⟩
  have C_Line___init__ : CalIX P w K mg base 3 (He.ga K "Line") ["self", "start", "step"] (sp_Line___init__ K) (fun _ => True) := ⟨_, _, ok_Line___init__ T L E_ C_ei C_divisor_of F_7, He.mkr_ok (c.fact 61 (f := (Hm.fa (.mkr "Line"))) rfl), F_7.bindsN (fun _ _ _ _ _ _ us hl => match us, hl with | [_, _, _], _ => rfl), trivial⟩
  have C_Line___eq__ : CalO P w K mg base 1 (He.ga K "Line") "__eq__" ["self", "other"] (sp_Line___eq__ K) (fun _ => True) := ⟨_, _, ok_Line___eq__ T L E_  F_8, Hm.defO_ok (c.fact 62 (f := (Hm.defB "Line" "__eq__")) rfl), F_8.bindsN (fun _ _ _ _ _ _ us hl => match us, hl with | [_, _], _ => rfl), trivial⟩
  have C_show_place : Cal P w K mg base 1 "show_place" ["place"] (sp_show_place K) (fun _ => True) := ⟨_, _, ok_show_place T L E_  F_9, He.glo_ok X G (c.fact 2 (f := (Hm.fa (.glo "show_place"))) rfl), F_9.kp, F_9.bindsN (fun _ _ _ _ _ _ us hl => match us, hl with | [_], _ => rfl), trivial⟩
  have C_Picture_size : CalP P w K mg base 1 (He.ga K "Picture") "size" ["self"] (sp_Picture_size K) (fun _ => True) := ⟨_, _, _, ok_Picture_size T L E_  F_10, Hm.prop_ok (c.fact 63 (f := (Hm.propB "Picture" "size")) rfl), F_10.bindsN (fun _ _ _ _ _ _ us hl => match us, hl with | [_], _ => rfl), trivial⟩
  have C_Picture_seen : CalP P w K mg base 1 (He.ga K "Picture") "seen" ["self"] (sp_Picture_seen K) (fun _ => True) := ⟨_, _, _, ok_Picture_seen T L E_  F_11, Hm.prop_ok (c.fact 64 (f := (Hm.propB "Picture" "seen")) rfl), F_11.bindsN (fun _ _ _ _ _ _ us hl => match us, hl with | [_], _ => rfl), trivial⟩
  have C_Picture_hidden : CalP P w K mg base 1 (He.ga K "Picture") "hidden" ["self"] (sp_Picture_hidden K) (fun _ => True) := ⟨_, _, _, ok_Picture_hidden T L E_  F_12, Hm.prop_ok (c.fact 65 (f := (Hm.propB "Picture" "hidden")) rfl), F_12.bindsN (fun _ _ _ _ _ _ us hl => match us, hl with | [_], _ => rfl), trivial⟩
  have C_show_picture : Cal P w K mg base 3 "show_picture" ["picture"] (sp_show_picture K) (fun _ => True) := ⟨_, _, ok_show_picture T L E_ C_show_place C_Picture_size C_Picture_seen C_Picture_hidden F_13, He.glo_ok X G (c.fact 3 (f := (Hm.fa (.glo "show_picture"))) rfl), F_13.kp, F_13.bindsN (fun _ _ _ _ _ _ us hl => match us, hl with | [_], _ => rfl), trivial⟩
  have C_Line_start : CalP P w K mg base 1 (He.ga K "Line") "start" ["self"] (sp_Line_start K) (fun _ => True) := ⟨_, _, _, ok_Line_start T L E_  F_14, Hm.prop_ok (c.fact 66 (f := (Hm.propB "Line" "start")) rfl), F_14.bindsN (fun _ _ _ _ _ _ us hl => match us, hl with | [_], _ => rfl), trivial⟩
  have C_Line_step : CalP P w K mg base 1 (He.ga K "Line") "step" ["self"] (sp_Line_step K) (fun _ => True) := ⟨_, _, _, ok_Line_step T L E_  F_15, Hm.prop_ok (c.fact 67 (f := (Hm.propB "Line" "step")) rfl), F_15.bindsN (fun _ _ _ _ _ _ us hl => match us, hl with | [_], _ => rfl), trivial⟩
  have C_show_line : Cal P w K mg base 3 "show_line" ["line"] (sp_show_line K) (fun _ => True) := ⟨_, _, ok_show_line T L E_ C_show_place C_Line_start C_Line_step F_16, He.glo_ok X G (c.fact 4 (f := (Hm.fa (.glo "show_line"))) rfl), F_16.kp, F_16.bindsN (fun _ _ _ _ _ _ us hl => match us, hl with | [_], _ => rfl), trivial⟩
  have C_plus : Cal P w K mg base 1 "plus" ["one", "other"] (sp_plus K) (fun _ => True) := ⟨_, _, ok_plus T L E_  F_17, He.glo_ok X G (c.fact 5 (f := (Hm.fa (.glo "plus"))) rfl), F_17.kp, F_17.bindsN (fun _ _ _ _ _ _ us hl => match us, hl with | [_, _], _ => rfl), trivial⟩
  have C_determinant : Cal P w K mg base 1 "determinant" ["rows"] (sp_determinant K) (fun _ => True) := ⟨_, _, ok_determinant T L E_  F_18, He.glo_ok X G (c.fact 6 (f := (Hm.fa (.glo "determinant"))) rfl), F_18.kp, F_18.bindsN (fun _ _ _ _ _ _ us hl => match us, hl with | [_], _ => rfl), trivial⟩
  have C_keeps_posts : Cal P w K mg base 2 "keeps_posts" ["rows", "size"] (sp_keeps_posts K) (fun _ => True) := ⟨_, _, ok_keeps_posts T L E_ C_determinant F_19, He.glo_ok X G (c.fact 7 (f := (Hm.fa (.glo "keeps_posts"))) rfl), F_19.kp, F_19.bindsN (fun _ _ _ _ _ _ us hl => match us, hl with | [_, _], _ => rfl), trivial⟩
  have C_image : Cal P w K mg base 1 "image" ["rows", "place"] (sp_image K) (fun _ => True) := ⟨_, _, ok_image T L E_  F_20, He.glo_ok X G (c.fact 8 (f := (Hm.fa (.glo "image"))) rfl), F_20.kp, F_20.bindsN (fun _ _ _ _ _ _ us hl => match us, hl with | [_, _], _ => rfl), trivial⟩
  have C_Picture_shifted : CalM P w K mg base 3 (He.ga K "Picture") "shifted" ["self", "shift"] (sp_Picture_shifted K) (fun _ => True) := ⟨_, _, ok_Picture_shifted T L E_ C_Picture___init__ C_plus F_21, He.meth_ok (c.fact 68 (f := (Hm.fa (.meth "Picture" "shifted"))) rfl), F_21.bindsN (fun _ _ _ _ _ _ us hl => match us, hl with | [_, _], _ => rfl), trivial⟩
  have C_Picture_mapped : CalM P w K mg base 3 (He.ga K "Picture") "mapped" ["self", "rows"] (sp_Picture_mapped K) (fun _ => True) := ⟨_, _, ok_Picture_mapped T L E_ C_Picture___init__ C_keeps_posts C_image F_22, He.meth_ok (c.fact 69 (f := (Hm.fa (.meth "Picture" "mapped"))) rfl), F_22.bindsN (fun _ _ _ _ _ _ us hl => match us, hl with | [_, _], _ => rfl), trivial⟩
  have C_Picture_least : CalM P w K mg base 4 (He.ga K "Picture") "least" ["self"] (sp_Picture_least K) (fun _ => True) := ⟨_, _, ok_Picture_least T L E_ C_Picture_shifted F_23, He.meth_ok (c.fact 70 (f := (Hm.fa (.meth "Picture" "least"))) rfl), F_23.bindsN (fun _ _ _ _ _ _ us hl => match us, hl with | [_], _ => rfl), trivial⟩
  have C_integer_of : Cal P w K mg base 1 "integer_of" ["word"] (sp_integer_of K) (fun _ => True) := ⟨_, _, ok_integer_of T L E_  F_24, He.glo_ok X G (c.fact 9 (f := (Hm.fa (.glo "integer_of"))) rfl), F_24.kp, F_24.bindsN (fun _ _ _ _ _ _ us hl => match us, hl with | [_], _ => rfl), trivial⟩
  have C_place_of : Cal P w K mg base 2 "place_of" ["word"] (sp_place_of K) (fun _ => True) := ⟨_, _, ok_place_of T L E_ C_integer_of F_25, He.glo_ok X G (c.fact 10 (f := (Hm.fa (.glo "place_of"))) rfl), F_25.kp, F_25.bindsN (fun _ _ _ _ _ _ us hl => match us, hl with | [_], _ => rfl), trivial⟩
  have C_ascend : Cal P w K mg base 1 "ascend" ["places", "size"] (sp_ascend K) (fun _ => True) := ⟨_, _, ok_ascend T L E_  F_26, He.glo_ok X G (c.fact 11 (f := (Hm.fa (.glo "ascend"))) rfl), F_26.kp, F_26.bindsN (fun _ _ _ _ _ _ us hl => match us, hl with | [_, _], _ => rfl), trivial⟩
  have C_read_place : CalX P w K mg base 3 "read_place" ["text"] (sp_read_place K) (fun _ => True) := ⟨_, _, ok_read_place T L E_ C_ei C_place_of F_27, He.glo_ok X G (c.fact 12 (f := (Hm.fa (.glo "read_place"))) rfl), F_27.kp, F_27.bindsN (fun _ _ _ _ _ _ us hl => match us, hl with | [_], _ => rfl), trivial⟩
  have C_read_picture : CalX P w K mg base 3 "read_picture" ["text"] (sp_read_picture K) (fun _ => True) := ⟨_, _, ok_read_picture T L E_ C_ei C_Picture___init__ C_place_of C_ascend F_28, He.glo_ok X G (c.fact 13 (f := (Hm.fa (.glo "read_picture"))) rfl), F_28.kp, F_28.bindsN (fun _ _ _ _ _ _ us hl => match us, hl with | [_], _ => rfl), trivial⟩
  have C_read_line : CalX P w K mg base 5 "read_line" ["text"] (sp_read_line K) (fun _ => True) := ⟨_, _, ok_read_line T L E_ C_ei C_Line___init__ C_place_of F_29, He.glo_ok X G (c.fact 14 (f := (Hm.fa (.glo "read_line"))) rfl), F_29.kp, F_29.bindsN (fun _ _ _ _ _ _ us hl => match us, hl with | [_], _ => rfl), trivial⟩
  have C_spring : Cal P w K mg base 1 "_law_spring" ["_law_cell", "_law_k"] (sp_spring K) (fun _ => True) := ⟨_, _, ok_spring T L E_  F_30, He.glo_ok X G (c.fact 15 (f := (Hm.fa (.glo "_law_spring"))) rfl), F_30.kp, F_30.bindsN (fun _ _ _ _ _ _ us hl => match us, hl with | [_, _], _ => rfl), trivial⟩
  have C_sip : Cal P w K mg base 1 "_law_sip" ["_law_spring_here", "_law_many"] (sp_sip K) (fun _ => True) := ⟨_, _, ok_sip T L E_  F_31, He.glo_ok X G (c.fact 16 (f := (Hm.fa (.glo "_law_sip"))) rfl), F_31.kp, F_31.bindsN (fun _ _ _ _ _ _ us hl => match us, hl with | [_, _], _ => rfl), trivial⟩
  have C_far : Cal P w K mg base 2 "_law_far" ["_law_spring_here", "_law_wide"] (sp_far K) (fun _ => True) := ⟨_, _, ok_far T L E_ C_sip F_32, He.glo_ok X G (c.fact 17 (f := (Hm.fa (.glo "_law_far"))) rfl), F_32.kp, F_32.bindsN (fun _ _ _ _ _ _ us hl => match us, hl with | [_, _], _ => rfl), trivial⟩
  have C_spots : Cal P w K mg base 3 "_law_spots" ["_law_spring_here", "_law_axes", "_law_many", "_law_held"] (sp_spots K) (fun _ => True) := ⟨_, _, ok_spots T L E_ C_sip C_far F_33, He.glo_ok X G (c.fact 18 (f := (Hm.fa (.glo "_law_spots"))) rfl), F_33.kp, F_33.bindsN (fun _ _ _ _ _ _ us hl => match us, hl with | [_, _, _, _], _ => rfl), trivial⟩
  have C_parts : Cal P w K mg base 4 "_law_parts" ["_law_spring_here", "_law_axes", "_law_most"] (sp_parts K) (fun _ => True) := ⟨_, _, ok_parts T L E_ C_sip C_spots F_34, He.glo_ok X G (c.fact 19 (f := (Hm.fa (.glo "_law_parts"))) rfl), F_34.kp, F_34.bindsN (fun _ _ _ _ _ _ us hl => match us, hl with | [_, _, _], _ => rfl), trivial⟩
  have C_matrix : Cal P w K mg base 2 "_law_matrix" ["_law_spring_here", "_law_axes"] (sp_matrix K) (fun _ => True) := ⟨_, _, ok_matrix T L E_ C_sip F_35, He.glo_ok X G (c.fact 20 (f := (Hm.fa (.glo "_law_matrix"))) rfl), F_35.kp, F_35.bindsN (fun _ _ _ _ _ _ us hl => match us, hl with | [_, _], _ => rfl), trivial⟩
  have C_line_ : Cal P w K mg base 3 "_law_line" ["_law_spring_here", "_law_axes"] (sp_line_ K) (fun _ => True) := ⟨_, _, ok_line_ T L E_ C_sip C_far F_36, He.glo_ok X G (c.fact 21 (f := (Hm.fa (.glo "_law_line"))) rfl), F_36.kp, F_36.bindsN (fun _ _ _ _ _ _ us hl => match us, hl with | [_, _], _ => rfl), trivial⟩
  have C_again : Cal P w K mg base 4 "_law_again" ["_law_picture"] (sp_again K) (fun _ => True) := ⟨_, _, ok_again T L E_ C_Picture___len__ C_Picture___eq__ C_show_place C_Picture_size C_Picture_seen C_Picture_hidden C_show_picture C_read_place C_read_picture F_37, He.glo_ok X G (c.fact 22 (f := (Hm.fa (.glo "_law_again"))) rfl), F_37.kp, F_37.bindsN (fun _ _ _ _ _ _ us hl => match us, hl with | [_], _ => rfl), trivial⟩
  have C_joined : Cal P w K mg base 5 "_law_joined" ["_law_one", "_law_other"] (sp_joined K) (fun _ => True) := ⟨_, _, ok_joined T L E_ C_Picture___or__ C_show_picture F_38, He.glo_ok X G (c.fact 23 (f := (Hm.fa (.glo "_law_joined"))) rfl), F_38.kp, F_38.bindsN (fun _ _ _ _ _ _ us hl => match us, hl with | [_, _], _ => rfl), trivial⟩
  have C_by_door : CalX P w K mg base 6 "_law_by_door" ["_law_door", "_law_text"] (sp_by_door K) (fun _ => True) := ⟨_, _, ok_by_door T L E_ C_read_place C_read_picture C_read_line F_39, He.glo_ok X G (c.fact 24 (f := (Hm.fa (.glo "_law_by_door"))) rfl), F_39.kp, F_39.bindsN (fun _ _ _ _ _ _ us hl => match us, hl with | [_, _], _ => rfl), trivial⟩
  have C_unread : Cal P w K mg base 7 "_law_unread" ["_law_door", "_law_text"] (sp_unread K) (fun _ => True) := ⟨_, _, ok_unread T L E_ C_by_door F_40, He.glo_ok X G (c.fact 25 (f := (Hm.fa (.glo "_law_unread"))) rfl), F_40.kp, F_40.bindsN (fun _ _ _ _ _ _ us hl => match us, hl with | [_, _], _ => rfl), trivial⟩
  have C_pair_right : Cal P w K mg base 6 "_law_pair_right" ["_law_one", "_law_other", "_law_grid", "_law_vector"] (sp_pair_right K) (fun _ => True) := ⟨_, _, ok_pair_right T L E_ C_Picture___sub__ C_Picture___eq__ C_show_picture C_Picture_shifted C_Picture_mapped C_Picture_least C_again C_joined F_41, He.glo_ok X G (c.fact 26 (f := (Hm.fa (.glo "_law_pair_right"))) rfl), F_41.kp, F_41.bindsN (fun _ _ _ _ _ _ us hl => match us, hl with | [_, _, _, _], _ => rfl), trivial⟩
  have C_right : Cal P w K mg base 8 "_law_right" ["_law_spring_here"] (sp_right K) (fun _ => True) := ⟨_, _, ok_right T L E_ C_Picture___init__ C_Line___init__ C_Line___eq__ C_show_place C_show_picture C_show_line C_read_line C_sip C_far C_parts C_matrix C_line_ C_unread C_pair_right F_42, He.glo_ok X G (c.fact 27 (f := (Hm.fa (.glo "_law_right"))) rfl), F_42.kp, F_42.bindsN (fun _ _ _ _ _ _ us hl => match us, hl with | [_], _ => rfl), trivial⟩
  exact ok_law T L E_ C_spring C_right F_43
end Wk
open PySem PySem.W PySem.Calls PyProof.Rows
theorem PySem.Challenge.cw_seenposts_k81_whole_texts_both_ways_holds : PySem.Challenge.rw_seenposts_k81_whole_texts_both_ways.Holds := by
  w_on; o_law
  refine HandSHeadRun.head_any (r := OpenLaw.row PySem.Challenge.rw_seenposts_k81_whole_texts_both_ways) (q := view (OpenLaw.row PySem.Challenge.rw_seenposts_k81_whole_texts_both_ways).prog [60]) (H := Wk.hkX) (ob := Wk.obX) (M := 20000) (loose := (((["_wall", "show_place", "show_picture", "show_line", "PostError", "InvalidSize", "InvalidPlace", "DoublePlace", "InvalidMatrix", "InvalidStep", "InvalidNumber", "Conflict", "Unreadable", "common_divisor", "divisor_of", "plus", "inverse", "joined", "prime_divisors", "count_from", "line_number", "dark_remainder", "two_seen", "signed_terms", "count_terms"] : List PySem.Str) ++ (["Line", "determinant", "keeps_posts", "image", "Picture", "DIGITS", "integer_of", "place_of", "ascend", "read_place", "read_picture", "read_line", "_law_spring", "_law_sip", "_law_far", "_law_spots", "_law_parts", "_law_image", "_law_matrix", "_law_line", "_law_again", "_law_joined", "_law_by_door", "_law_unread", "_law_pair_right"] : List PySem.Str)) ++ (["_law_right"] : List PySem.Str))) (d := HandSHeadRun.topDef (OpenLaw.row PySem.Challenge.rw_seenposts_k81_whole_texts_both_ways).prog 60) (kwd := []) Wk.obX_eq
    (by kernel_rfl) (fun s => by kernel_rfl) Wk.runX (by kernel_rfl) (by kernel_rfl) (by kernel_rfl) (by rfl) (by first | assumption | decide +kernel) (by decide +kernel) ⟨rfl, rfl, rfl, rfl, rfl, by decide +kernel⟩ ?hw ?hc
  case hw => w_witness2
  case hc =>
    refine L2.walk_ofE (l := PySem.Challenge.rw_seenposts_k81_whole_texts_both_ways) (n := 63) (k := 9) (x := "_law_script") (CX := L2.CX0) rfl (by decide) (by kernel_rfl) ⟨rfl, by decide, by decide⟩ ?F (fun _ _ _ _ z => z)
    intro w mg fa h Y G hmg0
    obtain ⟨K, KX, c⟩ := Y
    have hmg : mg ("law" : PySem.Str) = some (.ref fa) := by
      have e : (HandSHeadRun.topDef (OpenLaw.row PySem.Challenge.rw_seenposts_k81_whole_texts_both_ways).prog 60).name = ("law" : PySem.Str) := by kernel_rfl
      rw [← e]
      exact hmg0
    obtain ⟨fd, hb, hF⟩ := Wk.factsX (P := (PySem.Challenge.rw_seenposts_k81_whole_texts_both_ways).prog) (w := w) KX G hmg c
    exact ⟨K, fd, Wk.sp_law K, KX, hb, fun H a ns hl _ hS => Wk.law_end Pl.law_true H a ns hl hS, hF⟩

