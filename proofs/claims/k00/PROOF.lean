import PyProof.Rows.All
import Wide.All
import OpenK.AllK
import Wide.FinOn
import PyProof.EqAt
import PyProof.EqKinds
import PyProof.TupleCall
import HandS.ForMost
import HandS.Exc
import HandS.WordsExc
import HandS.Evl
import HandS.IsInst
import HandS.WideBits
import HandS.Wide
import HandS.Style
import HandS.Defaults
import HandS.MakeKwOnly
import HandS.Deep
import HandS.TupAny
import HandS.TupMul
import HandS.Zip
import HandS.Star
import HandS.Property
import HandS.Iter
import HandS.HeadHook1
import HandS.HeadHook2
import HandS.Sort
import HandS.SortOrd
import HandS.SortRule
import HandS.SortInts
import HandS.Dict
import HandS.TupLen
import HandS.Conv
import HandS.ExcOwn
import HandS.ExcInit
import HandS.ExcField
import HandS.ExcIs
import KE.KExcIs
import HandS.RaiseMore
import HandS.SetBool
import HandS.TupSets
import HandS.DictComp
import HandS.SetKeys
import KE.KDictCopyH
import PyProof.DictMoreH
import HandS.Flow
import KE.KUnpack
import KE.DataMinMax
import PyProof.Rows.CallKwBuiltin
import KE.GoesZip
import KE.GoesMore
import KE.KDictSum
import HandS.ExcValue
import HandS.Text
import HandS.FStr
import PyProof.StrBlock2
import KE.KCallOwn
import HandS.Nested
import HandS.ClsMeth
import KE.KSuper
import HandS.Spec
import PyProof.FactsAll.dict
import HandS.SuiteRaise
import HandS.List
import HandS.Steps
import HandS.TupLe
import PyProof.Rows.CountFlat
import KE.IntTextLaws
import HandS.RaiseFrom
import HandS.ExcInitHot
import KE.KTryMore
import PyProof.StrLawsRepr
import HandS.Small
import HandS.Head0
import HandS.Head1
import HandS.Head2
import HandS.HeadEnd
import PySem.Challenge.RW_seenposts_k00_errors_keep_their_value
set_option Elab.async false
set_option linter.all false
set_option maxRecDepth 100000
set_option maxHeartbeats 2000000
/-! A layer over the hand layer: typed data by representation, a frozen part of the heap, owned cells; what an expression computes as an Option of data. -/
namespace Mw
open PySem L2
open Evl (Ex)

/-! ### representations -/
structure Rp (α : Type) where
  r : Hp → V → α → Prop
  up : ∀ {H H' : Hp} {v : V} {a : α}, Ex H H' → r H v a → r H' v a

abbrev Rs {α : Type} (ra : Rp α) (H : Hp) : List V → List α → Prop := Paired (ra.r H)
theorem Rs.up {α : Type} {ra : Rp α} {H H' : Hp} {vs : List V} {ds : List α} (e : Ex H H') (h : Rs ra H vs ds) : Rs ra H' vs ds := L2.Paired.mapP h fun _ _ q => ra.up e q
def rInt : Rp Int := ⟨fun _ v i => v = .int i, fun _ h => h⟩
def rBool : Rp Bool := ⟨fun _ v b => v = .bl b, fun _ h => h⟩
def rStr : Rp Str := ⟨fun _ v s => v = .str s, fun _ h => h⟩
def rNon : Rp Unit := ⟨fun _ v _ => v = .non, fun _ h => h⟩
def rOpt {α : Type} (ra : Rp α) : Rp (Option α) := ⟨fun H v o => match o with
  | none => v = .non
  | some a => v ≠ .non ∧ ra.r H v a, fun {_ _ _ a} e h => match a, h with
  | none, h => h
  | some _, h => ⟨h.1, ra.up e h.2⟩⟩
def rLst {α : Type} (ra : Rp α) : Rp (List α) := ⟨fun H v ds => ∃ a vs, v = .ref a ∧ H a = some (.lst vs) ∧ Rs ra H vs ds, fun e ⟨a, vs, h1, h2, h3⟩ => ⟨a, vs, h1, e _ _ h2, Rs.up e h3⟩⟩
section
variable (K : PySem.W.Frag)
/-- a list that is only read (the script, one of the module's) -/
def rLsW {α : Type} (ra : Rp α) : Rp (List α) := ⟨fun H v ds => ∃ a vs, v = .ref a ∧ SqL K H a vs ∧ Rs ra H vs ds, fun e ⟨a, vs, h1, h2, h3⟩ => ⟨a, vs, h1, Evl.ex_l e h2, Rs.up e h3⟩⟩
def rTup (_ : PySem.W.Frag) {α : Type} (ra : Rp α) : Rp (List α) := ⟨fun H v ds => ∃ a vs, v = .ref a ∧ H a = some (.tup vs) ∧ Rs ra H vs ds, fun e ⟨a, vs, h1, h2, h3⟩ => ⟨a, vs, h1, e _ _ h2, Rs.up e h3⟩⟩
def rP2 (_ : PySem.W.Frag) {α β : Type} (ra : Rp α) (rb : Rp β) : Rp (α × β) := ⟨fun H v d => ∃ a v1 v2, v = .ref a ∧ H a = some (.tup [v1, v2]) ∧ ra.r H v1 d.1 ∧ rb.r H v2 d.2,
  fun e ⟨a, v1, v2, h1, h2, h3, h4⟩ => ⟨a, v1, v2, h1, e _ _ h2, ra.up e h3, rb.up e h4⟩⟩
def rP3 (_ : PySem.W.Frag) {α β γ : Type} (ra : Rp α) (rb : Rp β) (rc : Rp γ) : Rp (α × β × γ) := ⟨fun H v d => ∃ a v1 v2 v3, v = .ref a ∧ H a = some (.tup [v1, v2, v3]) ∧ ra.r H v1 d.1 ∧ rb.r H v2 d.2.1 ∧ rc.r H v3 d.2.2,
  fun e ⟨a, v1, v2, v3, h1, h2, h3, h4, h5⟩ => ⟨a, v1, v2, v3, h1, e _ _ h2, ra.up e h3, rb.up e h4, rc.up e h5⟩⟩
end

theorem ext_ {K : PySem.W.Frag} {F H : Hp} {a : Addr} {xs : List V} (e : Ex F H) (h : F a = some (.tup xs)) : SqT K H a xs := SqT.of (e _ _ h)
/-! ### cells: owned objects -/
/-- no tuple -/
def NT (o : HO) : Prop := match o with
  | .tup _ => False
  | _ => True
structure Cp where
  p : Hp → HO → Prop
  up : ∀ {H H' : Hp} {o : HO}, Ex H H' → p H o → p H' o
  nt : ∀ {H : Hp} {o : HO}, p H o → NT o
def cLst {α : Type} (ra : Rp α) (ds : List α) : Cp := ⟨fun F o => ∃ vs, o = .lst vs ∧ Rs ra F vs ds, fun e ⟨vs, h1, h2⟩ => ⟨vs, h1, Rs.up e h2⟩, fun ⟨_, h, _⟩ => by subst h; trivial⟩
abbrev Cs := List (Addr × Cp)
/-- an activation: the heap at entry, its frozen part, the cells handed in -/
structure Act where
  H0 : Hp
  F0 : Hp
  ps : List Addr
structure Cov (c : Act) (F : Hp) (cs : Cs) (H : Hp) : Prop where
  ex : Ex F H
  fz : Ex c.F0 F
  cell : ∀ x ∈ cs, F x.1 = none ∧ (c.H0 x.1 = none ∨ x.1 ∈ c.ps) ∧ ∃ o, H x.1 = some o ∧ x.2.p F o
  nd : (cs.map (·.1)).Nodup
  keep : ∀ b o, b ∉ c.ps → c.H0 b = some o → H b = some o
  nw : ∀ b o, F b = some o → c.F0 b = some o ∨ c.H0 b = none ∨ ∃ vs, o = .tup vs ∧ c.H0 b = some o
  dom : ∀ b, H b = none → c.H0 b = none
  pt : ∀ b ∈ c.ps, ∃ o, H b = some o ∧ NT o
section
variable {c : Act} {F H F' H' : Hp} {cs : Cs} {p : Addr} {o : HO} {x : Cp}
theorem Cov.fnone (h : Cov c F cs H) (hp : H p = none) : F p = none := by
  cases e : F p with
  | none => rfl
  | some o => rw [h.ex _ _ e] at hp; cases hp
theorem Cov.ptN (h : Cov c F cs H) (hp : H p = none) : ∀ b ∈ c.ps, ∃ u, upd H p o b = some u ∧ NT u := fun b hb => by
  obtain ⟨u, h1, h2⟩ := h.pt b hb
  exact ⟨u, by rw [upd_ne (ne_of_none h1 hp)]; exact h1, h2⟩
theorem Cov.ptS (h : Cov c F cs H) (n : NT o) : ∀ b ∈ c.ps, ∃ u, upd H p o b = some u ∧ NT u := fun b hb => by
  by_cases q : b = p
  · subst q; exact ⟨o, upd_same, n⟩
  · rw [upd_ne q]; exact h.pt b hb
/-- a new object, frozen at once -/
theorem Cov.lay (h : Cov c F cs H) (hp : H p = none) : Cov c (upd F p o) cs (upd H p o) := by
  have fp := h.fnone hp
  refine ⟨fun a u e => ?_, h.fz.trans (Ex.new fp), fun y hy => ?_, h.nd, fun b u hb e => ?_, fun b u e => ?_, fun b e => ?_, h.ptN hp⟩
  · by_cases q : a = p
    · subst q; rw [upd_same] at e ⊢; exact e
    · rw [upd_ne q] at e ⊢; exact h.ex _ _ e
  · obtain ⟨h1, h2, u, h3, h4⟩ := h.cell y hy
    have ny : y.1 ≠ p := ne_of_none h3 hp
    exact ⟨by rw [upd_ne ny]; exact h1, h2, u, by rw [upd_ne ny]; exact h3, y.2.up (Ex.new fp) h4⟩
  · have q := h.keep b u hb e
    rw [upd_ne (ne_of_none q hp)]; exact q
  · by_cases q : b = p
    · subst q; exact .inr (.inl (h.dom b hp))
    · rw [upd_ne q] at e; exact h.nw b u e
  · by_cases q : b = p
    · subst q; rw [upd_same] at e; cases e
    · rw [upd_ne q] at e; exact h.dom b e
/-- a new object, owned -/
theorem Cov.own0 (h : Cov c F cs H) (hp : H p = none) (hx : x.p F o) : Cov c F ((p, x) :: cs) (upd H p o) := by
  have fp := h.fnone hp
  refine ⟨fun a u e => ?_, h.fz, fun y hy => ?_, ?_, fun b u hb e => ?_, h.nw, fun b e => ?_, h.ptN hp⟩
  · rw [upd_ne (ne_of_none (h.ex _ _ e) hp)]; exact h.ex _ _ e
  · rcases List.mem_cons.mp hy with rfl | hy
    · exact ⟨fp, .inl (h.dom _ hp), o, upd_same, hx⟩
    · obtain ⟨h1, h2, u, h3, h4⟩ := h.cell y hy
      exact ⟨h1, h2, u, by rw [upd_ne (ne_of_none h3 hp)]; exact h3, h4⟩
  · rw [List.map_cons, List.nodup_cons]
    refine ⟨fun hm => ?_, h.nd⟩
    obtain ⟨y, hy, e⟩ := List.mem_map.mp hm
    obtain ⟨_, _, u, h3, _⟩ := h.cell y hy
    rw [e] at h3
    have h4 : H p = some u := h3
    rw [hp] at h4; cases h4
  · have q := h.keep b u hb e
    rw [upd_ne (ne_of_none q hp)]; exact q
  · by_cases q : b = p
    · subst q; rw [upd_same] at e; cases e
    · rw [upd_ne q] at e; exact h.dom b e
/-- the cell at hand -/
theorem Cov.head (h : Cov c F ((p, x) :: cs) H) : F p = none ∧ (c.H0 p = none ∨ p ∈ c.ps) ∧ ∃ o, H p = some o ∧ x.p F o := h.cell (p, x) List.mem_cons_self
theorem Cov.apart (h : Cov c F ((p, x) :: cs) H) : ∀ y ∈ cs, y.1 ≠ p := fun y hy e => by
  have q := h.nd
  rw [List.map_cons, List.nodup_cons] at q
  exact q.1 (List.mem_map.mpr ⟨y, hy, e⟩)
/-- the first cell changes -/
theorem Cov.set1 {x' : Cp} (h : Cov c F ((p, x) :: cs) H) (hx : x'.p F o) : Cov c F ((p, x') :: cs) (upd H p o) := by
  obtain ⟨f1, f2, u, f3, f4⟩ := h.head
  have ap := h.apart
  refine ⟨fun a v e => ?_, h.fz, fun y hy => ?_, h.nd, fun b v hb e => ?_, h.nw, fun b e => ?_, h.ptS (x'.nt hx)⟩
  · rw [upd_ne (ne_of_none e f1)]; exact h.ex _ _ e
  · rcases List.mem_cons.mp hy with rfl | hy
    · exact ⟨f1, f2, o, upd_same, hx⟩
    · obtain ⟨h1, h2, v, h3, h4⟩ := h.cell y (List.mem_cons_of_mem _ hy)
      exact ⟨h1, h2, v, by rw [upd_ne (ap y hy)]; exact h3, h4⟩
  · have nb : b ≠ p := fun z => by
      subst z
      rcases f2 with q | q
      · rw [q] at e; cases e
      · exact hb q
    rw [upd_ne nb]; exact h.keep b v hb e
  · by_cases q : b = p
    · subst q; rw [upd_same] at e; cases e
    · rw [upd_ne q] at e; exact h.dom b e
/-- cells in another order -/
theorem Cov.perm {cs' : Cs} (h : Cov c F cs H) (q : cs.Perm cs') : Cov c F cs' H :=
  ⟨h.ex, h.fz, fun y hy => h.cell y (q.mem_iff.mpr hy), (q.map _).nodup_iff.mp h.nd, h.keep, h.nw, h.dom, h.pt⟩
/-- the first cell is let go -/
theorem Cov.drop (h : Cov c F ((p, x) :: cs) H) : Cov c F cs H := by
  have q := h.nd
  rw [List.map_cons, List.nodup_cons] at q
  exact ⟨h.ex, h.fz, fun y hy => h.cell y (List.mem_cons_of_mem _ hy), q.2, h.keep, h.nw, h.dom, h.pt⟩
theorem Cov.dropAll (h : Cov c F cs H) : Cov c F [] H := ⟨h.ex, h.fz, fun _ hy => absurd hy List.not_mem_nil, List.nodup_nil, h.keep, h.nw, h.dom, h.pt⟩
/-- the first cell is frozen (its content as it stands) -/
theorem Cov.freeze (h : Cov c F ((p, x) :: cs) H) (hp : H p = some o) (hn : c.H0 p = none) : Cov c (upd F p o) cs H := by
  obtain ⟨f1, f2, u, f3, f4⟩ := h.head
  have ap := h.apart
  have hd := h.drop
  refine ⟨fun a v e => ?_, h.fz.trans (Ex.new f1), fun y hy => ?_, hd.nd, h.keep, fun b v e => ?_, h.dom, h.pt⟩
  · by_cases q : a = p
    · subst q; rw [upd_same] at e; cases e; exact hp
    · rw [upd_ne q] at e; exact h.ex _ _ e
  · obtain ⟨h1, h2, v, h3, h4⟩ := hd.cell y hy
    exact ⟨by rw [upd_ne (ap y hy)]; exact h1, h2, v, h3, y.2.up (Ex.new f1) h4⟩
  · by_cases q : b = p
    · subst q; exact .inr (.inl hn)
    · rw [upd_ne q] at e; exact h.nw b v e
theorem Cov.own (h : Cov c F cs H) (hp : H p = none) (hx : x.p F o) : Cov c F (cs ++ [(p, x)]) (upd H p o) := (h.own0 hp hx).perm (by
  have q := (List.perm_append_comm (l₁ := [(p, x)]) (l₂ := cs))
  exact q)
theorem Cov.toHead {l1 l2 : Cs} (h : Cov c F (l1 ++ (p, x) :: l2) H) : Cov c F ((p, x) :: (l1 ++ l2)) H := h.perm List.perm_middle
theorem Cov.ofHead {l1 l2 : Cs} (h : Cov c F ((p, x) :: (l1 ++ l2)) H) : Cov c F (l1 ++ (p, x) :: l2) H := h.perm List.perm_middle.symm
theorem Cov.split {i : Nat} (hi : cs[i]? = some (p, x)) : ∃ l1 l2, cs = l1 ++ (p, x) :: l2 ∧ l1.length = i := by
  obtain ⟨h1, h2⟩ := List.getElem?_eq_some_iff.mp hi
  refine ⟨cs.take i, cs.drop (i + 1), ?_, by rw [List.length_take]; omega⟩
  rw [← h2, List.getElem_cons_drop, List.take_append_drop]
/-- the i-th cell changes -/
theorem Cov.set {x' : Cp} (h : Cov c F cs H) (i : Nat) (hi : cs[i]? = some (p, x)) (hx : x'.p F o) : Cov c F (cs.set i (p, x')) (upd H p o) := by
  obtain ⟨l1, l2, rfl, rfl⟩ := Cov.split hi
  have q := (h.toHead.set1 (x' := x') hx).ofHead
  rw [List.set_append_right _ _ (Nat.le_refl _), Nat.sub_self]
  exact q
theorem Cov.at_ (h : Cov c F cs H) (i : Nat) (hi : cs[i]? = some (p, x)) : F p = none ∧ (c.H0 p = none ∨ p ∈ c.ps) ∧ ∃ o, H p = some o ∧ x.p F o := h.cell (p, x) (List.mem_of_getElem? hi)
/-- the i-th cell is frozen -/
theorem Cov.frzAt (h : Cov c F cs H) (i : Nat) (hi : cs[i]? = some (p, x)) (hp : H p = some o) (hn : c.H0 p = none) : Cov c (upd F p o) (cs.eraseIdx i) H := by
  obtain ⟨l1, l2, rfl, rfl⟩ := Cov.split hi
  rw [List.eraseIdx_append_of_length_le (Nat.le_refl _), Nat.sub_self]
  exact h.toHead.freeze hp hn
/-- only the first n are kept -/
theorem Cov.keepN (h : Cov c F cs H) (n : Nat) : Cov c F (cs.take n) H :=
  ⟨h.ex, h.fz, fun y hy => h.cell y (List.mem_of_mem_take hy), by rw [List.map_take]; exact h.nd.sublist (List.take_sublist _ _), h.keep, h.nw, h.dom, h.pt⟩
/-- rebased: an activation that begins here -/
theorem Cov.base (h : Cov c F cs H) : Cov ⟨H, F, cs.map (·.1)⟩ F cs H :=
  ⟨h.ex, Evl.Ex.refl F, fun y hy => by
    obtain ⟨h1, _, h3⟩ := h.cell y hy
    exact ⟨h1, .inr (List.mem_map.mpr ⟨y, hy, rfl⟩), h3⟩, h.nd, fun _ _ _ e => e, fun _ _ e => .inl e, fun _ e => e, fun b hb => by
    obtain ⟨y, hy, rfl⟩ := List.mem_map.mp hb
    obtain ⟨_, _, o, h3, h4⟩ := h.cell y hy
    exact ⟨o, h3, y.2.nt h4⟩⟩
/-- behind a part that owned cs1 of the cells (and leaves cs2 in their place) -/
theorem Cov.back {cs1 cs2 : Cs} (h : Cov c F (cs1 ++ cs) H) (k : Cov ⟨H, F, cs1.map (·.1)⟩ F' cs2 H') (old : ∀ y ∈ cs2, y.1 ∈ cs1.map (·.1) ∨ H y.1 = none) : Cov c F' (cs2 ++ cs) H' := by
  have nd := h.nd
  rw [List.map_append, List.nodup_append] at nd
  have kc : ∀ y ∈ cs, y.1 ∉ cs1.map (·.1) := fun y hy hm => nd.2.2 _ hm _ (List.mem_map.mpr ⟨y, hy, rfl⟩) rfl
  have hF : ∀ y ∈ cs, F' y.1 = none := fun y hy => by
    obtain ⟨h1, h2, o, h3, h4⟩ := h.cell y (List.mem_append_right _ hy)
    cases e : F' y.1 with
    | none => rfl
    | some u =>
      rcases k.nw _ _ e with q | q | ⟨vs, rfl, q⟩
      · have q' : F y.1 = some u := q
        rw [h1] at q'; cases q'
      · have q' : H y.1 = none := q
        rw [h3] at q'; cases q'
      · have q' : H y.1 = some (.tup vs) := q
        rw [h3] at q'; cases q'
        exact (y.2.nt h4).elim
  refine ⟨k.ex, h.fz.trans k.fz, fun y hy => ?_, ?_, fun b o hb e => ?_, fun b o e => ?_, fun b e => h.dom b (k.dom b e), fun b hb => ?_⟩
  · rcases List.mem_append.mp hy with hy | hy
    · obtain ⟨h1, h2, h3⟩ := k.cell y hy
      refine ⟨h1, ?_, h3⟩
      rcases old y hy with q | q
      · obtain ⟨z, hz, ez⟩ := List.mem_map.mp q
        obtain ⟨_, h5, _⟩ := h.cell z (List.mem_append_left _ hz)
        rw [← ez]; exact h5
      · exact .inl (h.dom _ q)
    · obtain ⟨h1, h2, o, h3, h4⟩ := h.cell y (List.mem_append_right _ hy)
      exact ⟨hF y hy, h2, o, k.keep _ _ (kc y hy) h3, y.2.up k.fz h4⟩
  · rw [List.map_append, List.nodup_append]
    refine ⟨k.nd, nd.2.1, fun a ha b hb e => ?_⟩
    obtain ⟨y, hy, ey⟩ := List.mem_map.mp ha
    obtain ⟨z, hz, ez⟩ := List.mem_map.mp hb
    rcases old y hy with q | q
    · exact nd.2.2 _ q _ (List.mem_map.mpr ⟨z, hz, rfl⟩) (by rw [ey, ez]; exact e)
    · obtain ⟨_, _, o, h3, _⟩ := h.cell z (List.mem_append_right _ hz)
      rw [ez, ← e, ← ey, q] at h3; cases h3
  · by_cases hm : b ∈ cs1.map (·.1)
    · obtain ⟨z, hz, ez⟩ := List.mem_map.mp hm
      obtain ⟨_, h5, _⟩ := h.cell z (List.mem_append_left _ hz)
      rcases h5 with q | q
      · rw [ez] at q; rw [q] at e; cases e
      · rw [ez] at q; exact absurd q hb
    · exact k.keep b o hm (h.keep b o hb e)
  · rcases k.nw b o e with q | q | ⟨vs, rfl, q⟩
    · exact h.nw b o q
    · exact .inr (.inl (h.dom b q))
    · have q' : H b = some (.tup vs) := q
      cases z : c.H0 b with
      | none => exact .inr (.inl rfl)
      | some u =>
        by_cases hb : b ∈ c.ps
        · obtain ⟨w, z1, z2⟩ := h.pt b hb
          rw [q'] at z1; cases z1
          exact z2.elim
        · have := h.keep b u hb z
          rw [q'] at this; cases this
          exact .inr (.inr ⟨vs, rfl, rfl⟩)
  · by_cases hm : b ∈ cs1.map (·.1)
    · exact k.pt b hm
    · obtain ⟨u, z1, z2⟩ := h.pt b hb
      exact ⟨u, k.keep b u hm z1, z2⟩
/-- behind a call that touched none of them -/
theorem Cov.call0 (h : Cov c F cs H) (k : Cov ⟨H, F, []⟩ F' [] H') : Cov c F' cs H' := h.back (cs1 := []) (cs2 := []) k fun _ hy => by cases hy
/-- a call that changed the first -/
theorem Cov.call1 {x' : Cp} (h : Cov c F ((p, x) :: cs) H) (k : Cov ⟨H, F, [p]⟩ F' [(p, x')] H') : Cov c F' ((p, x') :: cs) H' :=
  h.back (cs1 := [(p, x)]) (cs2 := [(p, x')]) k fun y hy => by
    rcases List.mem_cons.mp hy with rfl | hy
    · exact .inl List.mem_cons_self
    · cases hy
/-- a new cell that a call hands back -/
theorem Cov.old_new {cs2 : Cs} (k : Cov ⟨H, F, []⟩ F' cs2 H') : ∀ y ∈ cs2, y.1 ∈ ([] : List Addr) ∨ H y.1 = none := fun y hy => by
  obtain ⟨_, h2, _⟩ := k.cell y hy
  rcases h2 with q | q
  · exact .inr q
  · cases q
theorem Cov.call0n {cs2 : Cs} (h : Cov c F cs H) (k : Cov ⟨H, F, []⟩ F' cs2 H') : Cov c F' (cs ++ cs2) H' := (h.back (cs1 := []) (cs2 := cs2) k k.old_new).perm List.perm_append_comm
theorem Cov.old_ps {cs1 cs2 : Cs} (k : Cov ⟨H, F, cs1.map (·.1)⟩ F' cs2 H') : ∀ y ∈ cs2, y.1 ∈ cs1.map (·.1) ∨ H y.1 = none := fun y hy => by
  obtain ⟨_, h2, _⟩ := k.cell y hy
  rcases h2 with q | q
  · exact .inr q
  · exact .inl q
/-- a call that changed the i-th -/
theorem Cov.callAt {x' : Cp} (h : Cov c F cs H) (i : Nat) (hi : cs[i]? = some (p, x)) (k : Cov ⟨H, F, [p]⟩ F' [(p, x')] H') : Cov c F' (cs.set i (p, x')) H' := by
  obtain ⟨l1, l2, rfl, rfl⟩ := Cov.split hi
  have q := (h.toHead.call1 k).ofHead
  rw [List.set_append_right _ _ (Nat.le_refl _), Nat.sub_self]
  exact q
theorem Cov.preAt (h : Cov c F cs H) (i : Nat) (hi : cs[i]? = some (p, x)) : Cov ⟨H, F, [p]⟩ F [(p, x)] H := by
  obtain ⟨h1, _, h3⟩ := h.at_ i hi
  refine ⟨h.ex, Evl.Ex.refl F, fun y hy => ?_, by simp, fun _ _ _ e => e, fun _ _ e => Or.inl e, fun _ e => e, fun b hb => by
    obtain ⟨o, g1, g2⟩ := h3
    rw [List.mem_singleton.mp hb]
    exact ⟨o, g1, x.nt g2⟩⟩
  rcases List.mem_cons.mp hy with rfl | hy
  · exact ⟨h1, Or.inr List.mem_cons_self, h3⟩
  · exact absurd hy List.not_mem_nil
end

/-! ### what an expression computes -/
/-- te gives m's value, the cells as they were -/
def EM {α : Type} (ra : Rp α) (te : TE) (σ : L2.St) (F : Hp) (cs : Cs) (m : Option α) : Prop := ∀ d, m = some d → ∀ c F1 H, Ex F F1 → Cov c F1 cs H → ∀ Q : VK, (∀ v F2 H2, Ex F1 F2 → Cov c F2 cs H2 → ra.r F2 v d → Q v H2) → te σ H Q
/-- te gives a new list of m's items, an owned cell -/
def EF {α : Type} (ra : Rp α) (te : TE) (σ : L2.St) (F : Hp) (cs : Cs) (m : Option (List α)) : Prop := ∀ d, m = some d → ∀ c F1 H, Ex F F1 → Cov c F1 cs H → ∀ Q : VK, (∀ p F2 H2, Ex F1 F2 → Cov c F2 (cs ++ [(p, cLst ra d)]) H2 → c.H0 p = none → Q (.ref p) H2) → te σ H Q
def EA {α : Type} (ra : Rp α) (ta : TA) (σ : L2.St) (F : Hp) (cs : Cs) (m : Option (List α)) : Prop := ∀ d, m = some d → ∀ c F1 H, Ex F F1 → Cov c F1 cs H → ∀ Q : List V → Hp → Prop, (∀ vs F2 H2, Ex F1 F2 → Cov c F2 cs H2 → Rs ra F2 vs d → Q vs H2) → ta σ H Q
def ET (tt : TT) (σ : L2.St) (F : Hp) (cs : Cs) (m : Option Bool) : Prop := ∀ d, m = some d → ∀ c F1 H, Ex F F1 → Cov c F1 cs H → ∀ Q : Bool → Hp → Prop, (∀ F2 H2, Ex F1 F2 → Cov c F2 cs H2 → Q d H2) → tt σ H Q
/-- an operation upon values -/
def VO {α β γ : Type} (rd : R2) (ra : Rp α) (rb : Rp β) (rc : Rp γ) (g : α → β → Option γ) : Prop := ∀ c F cs H v w a b d, Cov c F cs H → ra.r F v a → rb.r F w b → g a b = some d → ∀ Q : VK, (∀ u F2 H2, Ex F F2 → Cov c F2 cs H2 → rc.r F2 u d → Q u H2) → rd v w H Q
def VC {α γ : Type} (rd : List V → Hp → VK → Prop) (ra : Rp α) (rc : Rp γ) (g : α → Option γ) : Prop := ∀ c F cs H v a d, Cov c F cs H → ra.r F v a → g a = some d → ∀ Q : VK, (∀ u F2 H2, Ex F F2 → Cov c F2 cs H2 → rc.r F2 u d → Q u H2) → rd [v] H Q
def VC2 {α β γ : Type} (rd : List V → Hp → VK → Prop) (ra : Rp α) (rb : Rp β) (rc : Rp γ) (g : α → β → Option γ) : Prop := ∀ c F cs H v w a b d, Cov c F cs H → ra.r F v a → rb.r F w b → g a b = some d → ∀ Q : VK, (∀ u F2 H2, Ex F F2 → Cov c F2 cs H2 → rc.r F2 u d → Q u H2) → rd [v, w] H Q
/-! ### data -/
def o1 {α γ : Type} (g : α → Option γ) (ma : Option α) : Option γ := ma.bind g
def o2 {α β γ : Type} (g : α → β → Option γ) (ma : Option α) (mb : Option β) : Option γ := ma.bind fun a => mb.bind fun b => g a b
def oAnd (a b : Option Bool) : Option Bool := a.bind fun x => if x = true then b else some false
def oOr (a b : Option Bool) : Option Bool := a.bind fun x => if x = true then some true else b
def oNot (a : Option Bool) : Option Bool := a.map fun x => !x
def oIf {α : Type} (c : Option Bool) (a b : Option α) : Option α := c.bind fun x => if x = true then a else b
def oCons {α : Type} (a : Option α) (l : Option (List α)) : Option (List α) := a.bind fun x => l.bind fun r => some (x :: r)
def addG (a b : Int) : Option Int := some (a + b)
def subG (a b : Int) : Option Int := some (a - b)
def mulG (a b : Int) : Option Int := if a.natAbs < 2 ^ 64 ∨ b.natAbs < 2 ^ 64 ∨ a.natAbs.log2 + b.natAbs.log2 ≤ 134000000 then some (a * b) else none
def divG (a b : Int) : Option Int := if 0 < b ∧ b.natAbs.log2 < 9000 then some (a / b) else if b < 0 ∧ b.natAbs.log2 < 9000 then some (Int.fdiv a b) else none
def modG (a b : Int) : Option Int := if 0 < b then some (a % b) else none
def ltG (a b : Int) : Option Bool := some (decide (a < b))
def leG (a b : Int) : Option Bool := some (decide (a ≤ b))
def gtG (a b : Int) : Option Bool := some (decide (b < a))
def geG (a b : Int) : Option Bool := some (decide (b ≤ a))
def eqG {α : Type} [DecidableEq α] (a b : α) : Option Bool := some (decide (a = b))
def neG {α : Type} [DecidableEq α] (a b : α) : Option Bool := some (!decide (a = b))
def ixG {α : Type} (l : List α) (i : Int) : Option α := atI l i
def setG {α : Type} (l : List α) (i : Int) (x : α) : Option (List α) := (ixN l.length i).map fun j => l.set j x
def absG (a : Int) : Option Int := some (if a < 0 then -a else a)
def negG (a : Int) : Option Int := some (-a)
def maxG (a b : Int) : Option Int := some (if b > a then b else a)
def minG (a b : Int) : Option Int := some (if b < a then b else a)
def lenG {α : Type} (l : List α) : Option Int := some (l.length : Int)
def catG {α : Type} (a b : List α) : Option (List α) := if a.length + b.length ≤ 16000000 then some (a ++ b) else none
def repG {α : Type} (a : List α) (k : Int) : Option (List α) := if -(2 ^ 63) ≤ k ∧ k < 2 ^ 20 ∧ a.length ≤ 15 then some (List.replicate k.toNat a).flatten else none
def cut {α : Type} (xs : List α) (lo hi : Option Int) : List α := (xs.drop (HT.sIx xs.length 0 lo)).take (HT.sIx xs.length xs.length hi - HT.sIx xs.length 0 lo)
def b2i (k : Bool) : Int := if k then 1 else 0

theorem o1_some {α γ : Type} {g : α → Option γ} {ma : Option α} {d : γ} (h : o1 g ma = some d) : ∃ a, ma = some a ∧ g a = some d := by
  cases ma with
  | none => cases h
  | some a => exact ⟨a, rfl, h⟩
theorem o2_some {α β γ : Type} {g : α → β → Option γ} {ma : Option α} {mb : Option β} {d : γ} (h : o2 g ma mb = some d) : ∃ a b, ma = some a ∧ mb = some b ∧ g a b = some d := by
  cases ma with
  | none => cases h
  | some a => cases mb with
    | none => cases h
    | some b => exact ⟨a, b, rfl, rfl, h⟩
theorem bind_some {α γ : Type} {g : α → Option γ} {ma : Option α} {d : γ} (h : ma.bind g = some d) : ∃ a, ma = some a ∧ g a = some d := by
  cases ma with
  | none => cases h
  | some a => exact ⟨a, rfl, h⟩

/-! ### expressions -/
section
variable {α β γ : Type} {ra : Rp α} {rb : Rp β} {rc : Rp γ} {σ : L2.St} {F : Hp} {cs : Cs} {ta tb te : TE} {t u : TT} {v : V} {d : α} {ma : Option α} {mb : Option β} {K : PySem.W.Frag}
theorem EM.up {F' : Hp} (h : EM ra te σ F cs ma) (e : Ex F F') : EM ra te σ F' cs ma := fun d q c F1 H e1 => h d q c F1 H (e.trans e1)
theorem em_var {i : Nat} (h : σ[i]? = some (some v)) (r : ra.r F v d) : EM ra (tVar i) σ F cs (some d) := fun d' q c F1 H e k Q hQ => by
  cases q
  exact ⟨v, h, hQ v F1 H (Evl.Ex.refl _) k (ra.up e r)⟩
/-- a value that does not stand on the heap -/
def Flat {α : Type} (ra : Rp α) : Prop := ∀ F F' v d, ra.r F v d → ra.r F' v d
theorem fl_int : Flat rInt := fun _ _ _ _ h => h
theorem fl_str : Flat rStr := fun _ _ _ _ h => h
theorem em_varf {i : Nat} {F0 : Hp} (f : Flat ra) (h : σ[i]? = some (some v)) (r : ra.r F0 v d) : EM ra (tVar i) σ F cs (some d) := fun d' q c F1 H e k Q hQ => by
  cases q
  exact ⟨v, h, hQ v F1 H (Evl.Ex.refl _) k (f _ _ _ _ r)⟩
theorem em_c (r : ∀ H, ra.r H v d) : EM ra (tC v) σ F cs (some d) := fun d' q c F1 H e k Q hQ => by
  cases q
  exact hQ v F1 H (Evl.Ex.refl _) k (r _)
theorem em_int {i : Int} : EM rInt (tC (.int i)) σ F cs (some i) := em_c fun _ => rfl
theorem em_bl {b : Bool} : EM rBool (tC (.bl b)) σ F cs (some b) := em_c fun _ => rfl
theorem em_str {s : Str} : EM rStr (tC (.str s)) σ F cs (some s) := em_c fun _ => rfl
theorem em_op {rd : R2} {g : α → β → Option γ} (hv : VO rd ra rb rc g) (ha : EM ra ta σ F cs ma) (hb : EM rb tb σ F cs mb) : EM rc (tOp rd ta tb) σ F cs (o2 g ma mb) := fun d q c F1 H e k Q hQ => by
  obtain ⟨a, b, q1, q2, q3⟩ := o2_some q
  refine ha a q1 c F1 H e k _ fun x F2 H2 e2 k2 r2 => hb b q2 c F2 H2 (e.trans e2) k2 _ fun y F3 H3 e3 k3 r3 => hv c F3 cs H3 x y a b d k3 (ra.up e3 r2) r3 q3 Q fun z F4 H4 e4 k4 r4 => hQ z F4 H4 ((e2.trans e3).trans e4) k4 r4
theorem em_cb {rd : List V → Hp → VK → Prop} {g : α → Option γ} (hv : VC rd ra rc g) (ha : EM ra ta σ F cs ma) : EM rc (tCB rd (tCons ta tNil)) σ F cs (o1 g ma) := fun d q c F1 H e k Q hQ => by
  obtain ⟨a, q1, q3⟩ := o1_some q
  refine ha a q1 c F1 H e k _ fun x F2 H2 e2 k2 r2 => hv c F2 cs H2 x a d k2 r2 q3 Q fun z F4 H4 e4 k4 r4 => hQ z F4 H4 (e2.trans e4) k4 r4
theorem em_cb2 {rd : List V → Hp → VK → Prop} {g : α → β → Option γ} (hv : VC2 rd ra rb rc g) (ha : EM ra ta σ F cs ma) (hb : EM rb tb σ F cs mb) : EM rc (tCB rd (tCons ta (tCons tb tNil))) σ F cs (o2 g ma mb) := fun d q c F1 H e k Q hQ => by
  obtain ⟨a, b, q1, q2, q3⟩ := o2_some q
  refine ha a q1 c F1 H e k _ fun x F2 H2 e2 k2 r2 => hb b q2 c F2 H2 (e.trans e2) k2 _ fun y F3 H3 e3 k3 r3 => hv c F3 cs H3 x y a b d k3 (ra.up e3 r2) r3 q3 Q fun z F4 H4 e4 k4 r4 => hQ z F4 H4 ((e2.trans e3).trans e4) k4 r4
theorem em_eq {m m' : Option α} (h : EM ra te σ F cs m) (e : m = m') : EM ra te σ F cs m' := e ▸ h
/-- a new list, frozen -/
theorem EF.em {m : Option (List α)} (h : EF ra te σ F cs m) : EM (rLst ra) te σ F cs m := fun d q c F1 H e k Q hQ => by
  refine h d q c F1 H e k Q fun p F2 H2 e2 k2 n2 => ?_
  obtain ⟨f1, _, o, f3, vs, rfl, f4⟩ := k2.cell (p, cLst ra d) (List.mem_append_right _ List.mem_cons_self)
  exact hQ (.ref p) _ H2 (e2.trans (Ex.new f1)) (k2.toHead.freeze f3 n2 |>.perm (by rw [List.append_nil])) ⟨p, vs, rfl, upd_same, Rs.up (Ex.new f1) f4⟩
/-! tests -/
theorem et_test {m : Option Bool} (h : EM rBool te σ F cs m) : ET (tTest te) σ F cs m := fun d q c F1 H e k Q hQ => h d q c F1 H e k _ fun v F2 H2 e2 k2 r2 => ⟨d, r2, hQ F2 H2 e2 k2⟩
theorem et_B {m : Option Bool} (h : EM rBool te σ F cs m) : ET (tB te) σ F cs m := fun d q c F1 H e k Q hQ => h d q c F1 H e k _ fun v F2 H2 e2 k2 r2 => ⟨d, r2, hQ F2 H2 e2 k2⟩
theorem et_or {m n : Option Bool} (h1 : ET t σ F cs m) (h2 : ET u σ F cs n) : ET (tOr t u) σ F cs (oOr m n) := fun d q c F1 H e k Q hQ => by
  obtain ⟨a, q1, q2⟩ := bind_some q
  refine h1 a q1 c F1 H e k _ fun F2 H2 e2 k2 => ?_
  cases a with
  | true =>
    cases q2
    show Q true H2
    exact hQ F2 H2 e2 k2
  | false =>
    show u σ H2 Q
    exact h2 d q2 c F2 H2 (e.trans e2) k2 Q fun F3 H3 e3 k3 => hQ F3 H3 (e2.trans e3) k3
theorem et_not {m : Option Bool} (h1 : ET t σ F cs m) : ET (tNot t) σ F cs (oNot m) := fun d q c F1 H e k Q hQ => by
  cases m with
  | none => cases q
  | some a =>
    cases q
    exact h1 a rfl c F1 H e k _ fun F2 H2 e2 k2 => hQ F2 H2 e2 k2
theorem em_if {m : Option Bool} {n1 n2 : Option α} (h : ET t σ F cs m) (h1 : EM ra ta σ F cs n1) (h2 : EM ra tb σ F cs n2) : EM ra (tIf t ta tb) σ F cs (oIf m n1 n2) := fun d q c F1 H e k Q hQ => by
  obtain ⟨a, q1, q2⟩ := bind_some q
  refine h a q1 c F1 H e k _ fun F2 H2 e2 k2 => ?_
  cases a with
  | true =>
    show ta σ H2 Q
    exact h1 d q2 c F2 H2 (e.trans e2) k2 Q fun v F3 H3 e3 k3 r3 => hQ v F3 H3 (e2.trans e3) k3 r3
  | false =>
    show tb σ H2 Q
    exact h2 d q2 c F2 H2 (e.trans e2) k2 Q fun v F3 H3 e3 k3 r3 => hQ v F3 H3 (e2.trans e3) k3 r3
/-! argument lists, displays -/
theorem ea_nil : EA ra tNil σ F cs (some []) := fun d q c F1 H e k Q hQ => by
  cases q
  exact hQ [] F1 H (Evl.Ex.refl _) k .nil
theorem ea_cons {tr : TA} {l : Option (List α)} (h : EM ra ta σ F cs ma) (hr : EA ra tr σ F cs l) : EA ra (tCons ta tr) σ F cs (oCons ma l) := fun d q c F1 H e k Q hQ => by
  obtain ⟨a, q1, q2⟩ := bind_some q
  obtain ⟨b, q3, q4⟩ := bind_some q2
  cases q4
  exact h a q1 c F1 H e k _ fun v F2 H2 e2 k2 r2 => hr b q3 c F2 H2 (e.trans e2) k2 _ fun vs F3 H3 e3 k3 r3 => hQ (v :: vs) F3 H3 (e2.trans e3) k3 (.cons (ra.up e3 r2) r3)
def szG {α : Type} (l : List α) : Option (List α) := if l.length ≤ 16000000 then some l else none
theorem szG_some {l d : List α} (h : szG l = some d) : d = l ∧ l.length ≤ 16000000 := by
  unfold szG at h
  split at h
  · cases h; exact ⟨rfl, by assumption⟩
  · cases h
theorem sz_ok {n : Nat} (h : n ≤ 16000000) : n ≤ sizeLine := by
  rw [sizeLine_eq]; omega
theorem ef_lst {ta : TA} {l : Option (List α)} (h : EA ra ta σ F cs l) : EF ra (tLst ta) σ F cs (o1 szG l) := fun d q c F1 H e k Q hQ => by
  obtain ⟨a, q1, q2⟩ := o1_some q
  obtain ⟨rfl, hl⟩ := szG_some q2
  refine h _ q1 c F1 H e k _ fun vs F2 H2 e2 k2 r2 => ⟨sz_ok (by rw [r2.length]; exact hl), fun p hp => hQ p F2 _ e2 (k2.own hp ⟨vs, rfl, r2⟩) (k2.dom p hp)⟩
theorem em_tup {ta : TA} {l : Option (List α)} (h : EA ra ta σ F cs l) : EM (rTup K ra) (tTup ta) σ F cs (o1 szG l) := fun d q c F1 H e k Q hQ => by
  obtain ⟨a, q1, q2⟩ := o1_some q
  obtain ⟨rfl, hl⟩ := szG_some q2
  refine h _ q1 c F1 H e k _ fun vs F2 H2 e2 k2 r2 => ⟨sz_ok (by rw [r2.length]; exact hl), fun p hp => hQ (.ref p) _ _ (e2.trans (Ex.new (k2.fnone hp))) (k2.lay hp) ⟨p, vs, rfl, upd_same, Rs.up (Ex.new (k2.fnone hp)) r2⟩⟩
end
end Mw

set_option maxHeartbeats 2000000
namespace Mw
open PySem L2
open Evl (Ex)

/-! ### operations upon ints, bools -/
section
theorem vo_add : VO (rI0 fun i j => .int (i + j)) rInt rInt rInt addG := fun c F cs H v w a b d k r1 r2 q Q hQ => by
  cases q; exact ⟨a, b, r1, r2, hQ _ F H (Evl.Ex.refl _) k rfl⟩
theorem vo_sub : VO (rI0 fun i j => .int (i - j)) rInt rInt rInt subG := fun c F cs H v w a b d k r1 r2 q Q hQ => by
  cases q; exact ⟨a, b, r1, r2, hQ _ F H (Evl.Ex.refl _) k rfl⟩
theorem mulG_ok {a b : Int} (h : a.natAbs < 2 ^ 64 ∨ b.natAbs < 2 ^ 64 ∨ a.natAbs.log2 + b.natAbs.log2 ≤ 134000000) : PySem.IntMulOk a b := by
  have q : ∀ x : Int, Builtin.Int.intBits x ≤ x.natAbs.log2 + 1 := fun x => by
    unfold Builtin.Int.intBits
    split <;> omega
  rcases h with h | h | h
  · have z := PySem.Flt.log2_lt_of (by decide : 0 < 64) h
    exact PySem.IntMulOk.of_left (by have := q a; omega)
  · have z := PySem.Flt.log2_lt_of (by decide : 0 < 64) h
    exact PySem.IntMulOk.of_right (by have := q b; omega)
  · have h1 := q a
    have h2 := q b
    exact CMulX.ok (by unfold CMulX; omega)
theorem op_mulI {X : Cx} : OpR X (binaryOp .Mult) (rI PySem.IntMulOk fun i j => .int (i * j)) := opI fun _ _ _ _ _ _ _ hc q => PyProof.Rows.mul_int q hc
theorem vo_mul : VO (rI PySem.IntMulOk fun i j => .int (i * j)) rInt rInt rInt mulG := fun c F cs H v w a b d k r1 r2 q Q hQ => by
  unfold mulG at q
  split at q
  · rename_i h
    cases q
    exact ⟨a, b, r1, r2, mulG_ok h, hQ _ F H (Evl.Ex.refl _) k rfl⟩
  · cases q
def CDivF (_ j : Int) : Prop := j ≠ 0 ∧ j.natAbs.log2 < 9000
theorem op_fdivF {X : Cx} : OpR X (binaryOp .FloorDiv) (rI CDivF fun i j => .int (Int.fdiv i j)) := opI fun i j _ _ _ _ _ hc q => PyProof.Rows.floordiv_int hc.1 q (.inl (PyProof.noPylong_of_log2 hc.2))
theorem vo_div : VO (rI CDivF fun i j => .int (Int.fdiv i j)) rInt rInt rInt divG := fun c F cs H v w a b d k r1 r2 q Q hQ => by
  unfold divG at q
  split at q
  · rename_i h
    cases q
    exact ⟨a, b, r1, r2, ⟨by omega, h.2⟩, hQ _ F H (Evl.Ex.refl _) k (congrArg V.int (Int.fdiv_eq_ediv_of_nonneg a (show 0 ≤ b by omega)))⟩
  · split at q
    · rename_i h
      cases q
      exact ⟨a, b, r1, r2, ⟨by omega, h.2⟩, hQ _ F H (Evl.Ex.refl _) k rfl⟩
    · cases q
theorem vo_mod : VO (rI (fun _ j => 0 < j) fun i j => .int (i % j)) rInt rInt rInt modG := fun c F cs H v w a b d k r1 r2 q Q hQ => by
  unfold modG at q
  split at q
  · rename_i h
    cases q
    exact ⟨a, b, r1, r2, h, hQ _ F H (Evl.Ex.refl _) k rfl⟩
  · cases q
theorem vo_lt : VO (rI0 fun i j => .bl (decide (i < j))) rInt rInt rBool ltG := fun c F cs H v w a b d k r1 r2 q Q hQ => by
  cases q; exact ⟨a, b, r1, r2, hQ _ F H (Evl.Ex.refl _) k rfl⟩
theorem vo_gt : VO (rI0 fun i j => .bl (decide (j < i))) rInt rInt rBool gtG := fun c F cs H v w a b d k r1 r2 q Q hQ => by
  cases q; exact ⟨a, b, r1, r2, hQ _ F H (Evl.Ex.refl _) k rfl⟩
theorem dec_int {a b : Int} : decide (V.int a = V.int b) = decide (a = b) := by
  by_cases h : a = b
  · rw [decide_eq_true h, decide_eq_true (congrArg V.int h)]
  · rw [decide_eq_false h, decide_eq_false fun e => h (V.int.inj e)]
theorem dec_str {a b : Str} : decide (V.str a = V.str b) = decide (a = b) := by
  by_cases h : a = b
  · rw [decide_eq_true h, decide_eq_true (congrArg V.str h)]
  · rw [decide_eq_false h, decide_eq_false fun e => h (V.str.inj e)]
theorem vo_eqI : VO rEq rInt rInt rBool eqG := fun c F cs H v w a b d k r1 r2 q Q hQ => by
  cases r1; cases r2; cases q
  exact ⟨rfl, hQ _ F H (Evl.Ex.refl _) k (congrArg V.bl dec_int)⟩
theorem vo_neS : VO rNe rStr rStr rBool neG := fun c F cs H v w a b d k r1 r2 q Q hQ => by
  cases r1; cases r2; cases q
  exact ⟨rfl, hQ _ F H (Evl.Ex.refl _) k (congrArg V.bl (congrArg (fun z => !z) dec_str))⟩
theorem vc_int : VC (fun xs H Q => (∃ i, xs = [.int i] ∧ Q (.int i) H) ∨ ∃ k, xs = [.bl k] ∧ Q (.int (if k then 1 else 0)) H) rInt rInt some := fun c F cs H v a d k r1 q Q hQ => by
  cases q; cases r1; exact .inl ⟨a, rfl, hQ _ F H (Evl.Ex.refl _) k rfl⟩
theorem vc_intB : VC (fun xs H Q => (∃ i, xs = [.int i] ∧ Q (.int i) H) ∨ ∃ k, xs = [.bl k] ∧ Q (.int (if k then 1 else 0)) H) rBool rInt (fun b => some (b2i b)) := fun c F cs H v a d k r1 q Q hQ => by
  cases q; cases r1; exact .inr ⟨a, rfl, hQ _ F H (Evl.Ex.refl _) k rfl⟩
theorem vc_max : VC2 (fun xs H Q => ∃ i j, xs = [.int i, .int j] ∧ Q (.int (if j > i then j else i)) H) rInt rInt rInt maxG := fun c F cs H v w a b d k r1 r2 q Q hQ => by
  cases q; cases r1; cases r2; exact ⟨a, b, rfl, hQ _ F H (Evl.Ex.refl _) k rfl⟩
end

/-! ### lists as operands: frozen ones and owned cells -/
/-- v is a list of ds: a frozen one, or one of the cells -/
def LV {α : Type} (K : PySem.W.Frag) (ra : Rp α) (cs : Cs) (F : Hp) (v : V) (ds : List α) : Prop := ((rLst ra).r F v ds ∨ (rLsW K ra).r F v ds) ∨ ∃ p, v = .ref p ∧ (p, cLst ra ds) ∈ cs
def EL {α : Type} (K : PySem.W.Frag) (ra : Rp α) (te : TE) (σ : L2.St) (F : Hp) (cs : Cs) (m : Option (List α)) : Prop := ∀ d, m = some d → ∀ c F1 H, Ex F F1 → Cov c F1 cs H → ∀ Q : VK, (∀ v F2 H2, Ex F1 F2 → Cov c F2 cs H2 → LV K ra cs F2 v d → Q v H2) → te σ H Q
section
variable {α β γ : Type} {K : PySem.W.Frag} {ra : Rp α} {rb : Rp β} {rc : Rp γ} {cs : Cs} {F F' H : Hp} {v : V} {ds : List α} {c : Act} {σ : L2.St} {ta tb te : TE} {ma : Option (List α)} {mb : Option β}
theorem LV.up (h : LV K ra cs F v ds) (e : Ex F F') : LV K ra cs F' v ds := h.imp (fun q => q.imp ((rLst ra).up e) ((rLsW K ra).up e)) fun q => q
theorem LV.see (h : LV K ra cs F v ds) (k : Cov c F cs H) : ∃ a vs, v = .ref a ∧ SqL K H a vs ∧ Rs ra F vs ds := by
  rcases h with (⟨a, vs, h1, h2, h3⟩ | ⟨a, vs, h1, h2, h3⟩) | ⟨p, h1, h2⟩
  · exact ⟨a, vs, h1, SqL.of (k.ex _ _ h2), h3⟩
  · exact ⟨a, vs, h1, Evl.ex_l k.ex h2, h3⟩
  · obtain ⟨_, _, o, h3, vs, rfl, h4⟩ := k.cell _ h2
    exact ⟨p, vs, h1, SqL.of h3, h4⟩
theorem EM.el (h : EM (rLst ra) te σ F cs ma) : EL K ra te σ F cs ma := fun d q c F1 H e k Q hQ => h d q c F1 H e k Q fun v F2 H2 e2 k2 r2 => hQ v F2 H2 e2 k2 (.inl (.inl r2))
theorem EM.elw (h : EM (rLsW K ra) te σ F cs ma) : EL K ra te σ F cs ma := fun d q c F1 H e k Q hQ => h d q c F1 H e k Q fun v F2 H2 e2 k2 r2 => hQ v F2 H2 e2 k2 (.inl (.inr r2))
/-- a cell, read -/
theorem el_cell {i j : Nat} {p : Addr} (h : σ[i]? = some (some (.ref p))) (hj : cs[j]? = some (p, cLst ra ds)) : EL K ra (tVar i) σ F cs (some ds) := fun d q c F1 H e k Q hQ => by
  cases q
  exact ⟨_, h, hQ _ F1 H (Evl.Ex.refl _) k (.inr ⟨p, rfl, List.mem_of_getElem? hj⟩)⟩
theorem rs_get {vs : List V} {ds : List α} (h : Rs ra F vs ds) : ∀ {i : Nat} {d : α}, ds[i]? = some d → ∃ v, vs[i]? = some v ∧ ra.r F v d := by
  induction h with
  | nil => intro i d e; simp at e
  | cons r t ih =>
    intro i d e
    cases i with
    | zero => simp at e; subst e; exact ⟨_, rfl, r⟩
    | succ i => simp at e; obtain ⟨v, h1, h2⟩ := ih e; exact ⟨v, by simpa using h1, h2⟩
theorem rs_at {vs : List V} {ds : List α} (h : Rs ra F vs ds) {i : Int} {d : α} (e : ixG ds i = some d) : ∃ v, atI vs i = some v ∧ ra.r F v d := by
  unfold ixG atI at e
  unfold atI
  rw [h.length]
  cases q : ixN ds.length i with
  | none => rw [q] at e; cases e
  | some j => rw [q] at e; exact rs_get h e
theorem Rs.append {vs ws : List V} {ds es : List α} (h : Rs ra F vs ds) (g : Rs ra F ws es) : Rs ra F (vs ++ ws) (ds ++ es) := by
  induction h with
  | nil => exact g
  | cons r t ih => exact .cons r ih
theorem Rs.take {vs : List V} {ds : List α} (n : Nat) (h : Rs ra F vs ds) : Rs ra F (vs.take n) (ds.take n) := by
  induction h generalizing n with
  | nil => rw [List.take_nil, List.take_nil]; exact .nil
  | cons r t ih => cases n with
    | zero => exact .nil
    | succ n => exact .cons r (ih n)
theorem Rs.drop {vs : List V} {ds : List α} (n : Nat) (h : Rs ra F vs ds) : Rs ra F (vs.drop n) (ds.drop n) := by
  induction h generalizing n with
  | nil => rw [List.drop_nil, List.drop_nil]; exact .nil
  | cons r t ih => cases n with
    | zero => exact .cons r t
    | succ n => exact ih n
theorem Rs.set {vs : List V} {ds : List α} {v : V} {d : α} (n : Nat) (h : Rs ra F vs ds) (r : ra.r F v d) : Rs ra F (vs.set n v) (ds.set n d) := by
  induction h generalizing n with
  | nil => exact .nil
  | cons r' t ih => cases n with
    | zero => exact .cons r t
    | succ n => exact .cons r' (ih n)
theorem Rs.snoc {vs : List V} {ds : List α} {v : V} {d : α} (h : Rs ra F vs ds) (r : ra.r F v d) : Rs ra F (vs ++ [v]) (ds ++ [d]) := h.append (.cons r .nil)
theorem Rs.rep {vs : List V} {ds : List α} (h : Rs ra F vs ds) : ∀ n, Rs ra F (List.replicate n vs).flatten (List.replicate n ds).flatten
  | 0 => .nil
  | n + 1 => by
    rw [List.replicate_succ, List.replicate_succ, List.flatten_cons, List.flatten_cons]
    exact h.append (Rs.rep h n)
theorem Rs.cut {vs : List V} {ds : List α} (h : Rs ra F vs ds) (lo hi : Option Int) : Rs ra F (cutV vs lo hi) (cut ds lo hi) := by
  unfold cutV Mw.cut
  rw [h.length]
  exact (h.drop _).take _
theorem int_rs : ∀ {ns : List Int}, Rs rInt F (ns.map V.int) ns
  | [] => .nil
  | _ :: _ => .cons rfl int_rs
/-! what is done with a list -/
theorem el_ix (ha : EL K ra ta σ F cs ma) {mi : Option Int} (hb : EM rInt tb σ F cs mi) : EM ra (tOp (rIxL K) ta tb) σ F cs (o2 ixG ma mi) := fun d q c F1 H e k Q hQ => by
  obtain ⟨a, b, q1, q2, q3⟩ := o2_some q
  refine ha a q1 c F1 H e k _ fun x F2 H2 e2 k2 r2 => hb b q2 c F2 H2 (e.trans e2) k2 _ fun y F3 H3 e3 k3 r3 => ?_
  cases r3
  obtain ⟨p, vs, rfl, h1, h2⟩ := (r2.up e3).see k3
  obtain ⟨v, h3, h4⟩ := rs_at h2 q3
  exact ⟨p, vs, b, v, rfl, rfl, h1, h3, hQ v F3 H3 (e2.trans e3) k3 h4⟩
theorem el_len (ha : EL K ra ta σ F cs ma) : EM rInt (tCB (fun xs H Q => ∃ p ys, xs = [.ref p] ∧ (SqL K H p ys ∨ SqT K H p ys) ∧ Q (.int ys.length) H) (tCons ta tNil)) σ F cs (o1 lenG ma) := fun d q c F1 H e k Q hQ => by
  obtain ⟨a, q1, q3⟩ := o1_some q
  cases q3
  refine ha a q1 c F1 H e k _ fun x F2 H2 e2 k2 r2 => ?_
  obtain ⟨p, vs, rfl, h1, h2⟩ := r2.see k2
  exact ⟨p, vs, rfl, .inl h1, hQ _ F2 H2 e2 k2 (by rw [h2.length] <;> rfl)⟩
/-- tuple(xs) of a list -/
theorem el_tuple (ha : EL K ra ta σ F cs ma) : EM (rTup K ra) (tCB (fun xs H Q => ∃ p ys, xs = [.ref p] ∧ ((SqL K H p ys ∧ ∀ l, H l = none → Q (.ref l) (upd H l (.tup ys))) ∨ (SqT K H p ys ∧ Q (.ref p) H))) (tCons ta tNil)) σ F cs ma := fun d q c F1 H e k Q hQ => by
  refine ha d q c F1 H e k _ fun x F2 H2 e2 k2 r2 => ?_
  obtain ⟨p, vs, rfl, h1, h2⟩ := r2.see k2
  exact ⟨p, vs, rfl, .inl ⟨h1, fun l hl => hQ (.ref l) _ _ (e2.trans (Ex.new (k2.fnone hl))) (k2.lay hl) ⟨l, vs, rfl, upd_same, Rs.up (Ex.new (k2.fnone hl)) h2⟩⟩⟩
/-- parts of a slice -/
def EO (to : TO) (σ : L2.St) (F : Hp) (cs : Cs) (m : Option (Option Int)) : Prop := ∀ d, m = some d → ∀ c F1 H, Ex F F1 → Cov c F1 cs H → ∀ Q : Option Int → Hp → Prop, (∀ F2 H2, Ex F1 F2 → Cov c F2 cs H2 → Q d H2) → to σ H Q
theorem eo_none : EO tNoPart σ F cs (some none) := fun d q c F1 H e k Q hQ => by cases q; exact hQ F1 H (Evl.Ex.refl _) k
theorem eo_some {m : Option Int} (h : EM rInt te σ F cs m) : EO (tPart te) σ F cs (m.map some) := fun d q c F1 H e k Q hQ => by
  cases m with
  | none => cases q
  | some i =>
    cases q
    exact h i rfl c F1 H e k _ fun v F2 H2 e2 k2 r2 => ⟨i, r2, hQ F2 H2 e2 k2⟩
def oCut {α : Type} (m : Option (List α)) (lo hi : Option (Option Int)) : Option (List α) := m.bind fun l => lo.bind fun a => hi.bind fun b => some (cut l a b)
theorem oCut_some {α : Type} {m : Option (List α)} {lo hi : Option (Option Int)} {d : List α} (h : oCut m lo hi = some d) : ∃ l a b, m = some l ∧ lo = some a ∧ hi = some b ∧ d = cut l a b := by
  obtain ⟨l, h1, h⟩ := bind_some h
  obtain ⟨a, h2, h⟩ := bind_some h
  obtain ⟨b, h3, h⟩ := bind_some h
  cases h
  exact ⟨l, a, b, h1, h2, h3, rfl⟩
theorem ef_slice {tl th : TO} {lo hi : Option (Option Int)} (ha : EL K ra ta σ F cs ma) (h1 : EO tl σ F cs lo) (h2 : EO th σ F cs hi) : EF ra (tSl (rSlL K) ta tl th) σ F cs (oCut ma lo hi) := fun d q c F1 H e k Q hQ => by
  obtain ⟨l, a, b, q1, q2, q3, rfl⟩ := oCut_some q
  refine ha l q1 c F1 H e k _ fun x F2 H2 e2 k2 r2 => h1 a q2 c F2 H2 (e.trans e2) k2 _ fun F3 H3 e3 k3 => h2 b q3 c F3 H3 ((e.trans e2).trans e3) k3 _ fun F4 H4 e4 k4 => ?_
  obtain ⟨p, vs, rfl, h1, h2⟩ := (r2.up (e3.trans e4)).see k4
  exact ⟨p, vs, rfl, h1, fun l hl => hQ l F4 _ ((e2.trans e3).trans e4) (k4.own hl ⟨_, rfl, h2.cut a b⟩) (k4.dom l hl)⟩
/-! lists that are the call's own: frozen or cells -/
def LS {α : Type} (ra : Rp α) (cs : Cs) (F : Hp) (v : V) (ds : List α) : Prop := (rLst ra).r F v ds ∨ ∃ p, v = .ref p ∧ (p, cLst ra ds) ∈ cs
def ES {α : Type} (ra : Rp α) (te : TE) (σ : L2.St) (F : Hp) (cs : Cs) (m : Option (List α)) : Prop := ∀ d, m = some d → ∀ c F1 H, Ex F F1 → Cov c F1 cs H → ∀ Q : VK, (∀ v F2 H2, Ex F1 F2 → Cov c F2 cs H2 → LS ra cs F2 v d → Q v H2) → te σ H Q
theorem LS.up (h : LS ra cs F v ds) (e : Ex F F') : LS ra cs F' v ds := h.imp ((rLst ra).up e) fun q => q
theorem LS.see (h : LS ra cs F v ds) (k : Cov c F cs H) : ∃ a vs, v = .ref a ∧ H a = some (.lst vs) ∧ Rs ra F vs ds := by
  rcases h with ⟨a, vs, h1, h2, h3⟩ | ⟨p, h1, h2⟩
  · exact ⟨a, vs, h1, k.ex _ _ h2, h3⟩
  · obtain ⟨_, _, o, h3, vs, rfl, h4⟩ := k.cell _ h2
    exact ⟨p, vs, h1, h3, h4⟩
theorem EM.es (h : EM (rLst ra) te σ F cs ma) : ES ra te σ F cs ma := fun d q c F1 H e k Q hQ => h d q c F1 H e k Q fun v F2 H2 e2 k2 r2 => hQ v F2 H2 e2 k2 (.inl r2)
theorem catG_some {a b d : List α} (h : catG a b = some d) : d = a ++ b ∧ a.length + b.length ≤ 16000000 := by
  unfold catG at h
  split at h
  · cases h; exact ⟨rfl, by assumption⟩
  · cases h
theorem ef_cat {m1 m2 : Option (List α)} (ha : ES ra ta σ F cs m1) (hb : ES ra tb σ F cs m2) : EF ra (tOp rCat ta tb) σ F cs (o2 catG m1 m2) := fun d q c F1 H e k Q hQ => by
  obtain ⟨a, b, q1, q2, q3⟩ := o2_some q
  obtain ⟨rfl, hz⟩ := catG_some q3
  refine ha a q1 c F1 H e k _ fun x F2 H2 e2 k2 r2 => hb b q2 c F2 H2 (e.trans e2) k2 _ fun y F3 H3 e3 k3 r3 => ?_
  obtain ⟨p, vs, rfl, h1, h2⟩ := (r2.up e3).see k3
  obtain ⟨p', ws, rfl, h1', h2'⟩ := r3.see k3
  exact ⟨p, p', vs, ws, rfl, rfl, h1, h1', sz_ok (by rw [h2.length, h2'.length]; exact hz), fun l hl => hQ l F3 _ (e2.trans e3) (k3.own hl ⟨_, rfl, h2.append h2'⟩) (k3.dom l hl)⟩
theorem repG_some {a d : List α} {n : Int} (h : repG a n = some d) : d = (List.replicate n.toNat a).flatten ∧ -(2 ^ 63) ≤ n ∧ n < 2 ^ 20 ∧ a.length ≤ 15 := by
  unfold repG at h
  split at h
  · rename_i q
    cases h; exact ⟨rfl, q⟩
  · cases h
theorem ef_rep {m1 : Option (List α)} {mi : Option Int} (ha : ES ra ta σ F cs m1) (hb : EM rInt tb σ F cs mi) : EF ra (tOp rRep ta tb) σ F cs (o2 repG m1 mi) := fun d q c F1 H e k Q hQ => by
  obtain ⟨a, b, q1, q2, q3⟩ := o2_some q
  obtain ⟨rfl, g, hz, hl⟩ := repG_some q3
  refine ha a q1 c F1 H e k _ fun x F2 H2 e2 k2 r2 => hb b q2 c F2 H2 (e.trans e2) k2 _ fun y F3 H3 e3 k3 r3 => ?_
  cases r3
  obtain ⟨p, vs, rfl, h1, h2⟩ := (r2.up e3).see k3
  refine ⟨p, b, vs, rfl, rfl, h1, g, by omega, ?_, fun l hl => hQ l F3 _ (e2.trans e3) (k3.own hl ⟨_, rfl, h2.rep _⟩) (k3.dom l hl)⟩
  rw [h2.length]
  have z : a.length * b.toNat ≤ 15 * 2 ^ 20 := Nat.mul_le_mul hl (by omega)
  exact sz_ok (by omega)
end
end Mw

set_option maxHeartbeats 2000000
namespace Mw
open PySem L2
open Evl (Ex)
/-! ### S: what an expression computes while it changes a cell -/
def SM {α γ : Type} (ra : Rp α) (te : TE) (σ : L2.St) (F : Hp) (cs : Cs) (m : Option (α × γ)) (cs' : γ → Cs) : Prop := ∀ d g, m = some (d, g) → ∀ c F1 H, Ex F F1 → Cov c F1 cs H → ∀ Q : VK, (∀ v F2 H2, Ex F1 F2 → Cov c F2 (cs' g) H2 → ra.r F2 v d → Q v H2) → te σ H Q
def SF {α γ : Type} (ra : Rp α) (te : TE) (σ : L2.St) (F : Hp) (cs : Cs) (m : Option (List α × γ)) (cs' : γ → Cs) : Prop := ∀ d g, m = some (d, g) → ∀ c F1 H, Ex F F1 → Cov c F1 cs H → ∀ Q : VK, (∀ p F2 H2, Ex F1 F2 → Cov c F2 (cs' g ++ [(p, cLst ra d)]) H2 → c.H0 p = none → Q (.ref p) H2) → te σ H Q
def SA {α γ : Type} (ra : Rp α) (ta : TA) (σ : L2.St) (F : Hp) (cs : Cs) (m : Option (List α × γ)) (cs' : γ → Cs) : Prop := ∀ d g, m = some (d, g) → ∀ c F1 H, Ex F F1 → Cov c F1 cs H → ∀ Q : List V → Hp → Prop, (∀ vs F2 H2, Ex F1 F2 → Cov c F2 (cs' g) H2 → Rs ra F2 vs d → Q vs H2) → ta σ H Q
def ST {γ : Type} (tt : TT) (σ : L2.St) (F : Hp) (cs : Cs) (m : Option (Bool × γ)) (cs' : γ → Cs) : Prop := ∀ d g, m = some (d, g) → ∀ c F1 H, Ex F F1 → Cov c F1 cs H → ∀ Q : Bool → Hp → Prop, (∀ F2 H2, Ex F1 F2 → Cov c F2 (cs' g) H2 → Q d H2) → tt σ H Q
def sP {α γ : Type} (m : Option α) (s : γ) : Option (α × γ) := m.bind fun x => some (x, s)
theorem sP_some {α γ : Type} {m : Option α} {s g : γ} {d : α} (h : sP m s = some (d, g)) : m = some d ∧ g = s := by
  cases m with
  | none => cases h
  | some x => cases h; exact ⟨rfl, rfl⟩
def sC {α γ : Type} (x : Option (α × γ)) (f : α → γ → Option (β × γ)) : Option (β × γ) := x.bind fun p => f p.1 p.2
theorem sC_some {α β γ : Type} {x : Option (α × γ)} {f : α → γ → Option (β × γ)} {d : β × γ} (h : sC x f = some d) : ∃ a g, x = some (a, g) ∧ f a g = some d := by
  cases x with
  | none => cases h
  | some p => exact ⟨p.1, p.2, rfl, h⟩
/-- a part's outcome, then what is kept of the state -/
def sK {α γ : Type} (s : γ) (m : Option α) : Option (α × γ) := m.bind fun x => some (x, s)

def s1 {α1 ρ γ : Type} (f : α1 → γ → Option (ρ × γ)) (m1 : Option (α1 × γ)) : Option (ρ × γ) := sC (m1) fun a1 s1 => f a1 s1
def Psp1 {α1 ρ : Type} (r1 : Rp α1) (rr : Rp ρ) (m : α1 → Option (ρ)) : Sp := fun vs H Q _ => ∃ (F : Hp) (v1 : V) (a1 : α1) (d : ρ), vs = [v1] ∧ Ex F H ∧ r1.r F v1 a1 ∧ m a1 = some d ∧ ∀ v F2 H2, Cov ⟨H, F, []⟩ F2 [] H2 → rr.r F2 v d → Q v H2
theorem Psp1_len {α1 ρ : Type} {r1 : Rp α1} {rr : Rp ρ} {m : α1 → Option (ρ)} {vs : List V} {H : Hp} {Q : VK} {E : XK} (h : Psp1 r1 rr m vs H Q E) : vs.length = 1 := by
  obtain ⟨_, _, _, _, rfl, _⟩ := h
  rfl
def MPsp1 {α1 ρ γ : Type} (cell : γ → Cp) (r1 : Rp α1) (rr : Rp ρ) (m : γ → α1 → Option (ρ × γ)) : Sp := fun vs H Q _ => ∃ (F : Hp) (p : Addr) (v1 : V) (s : γ) (a1 : α1) (d : ρ) (s2 : γ), vs = [.ref p, v1] ∧ Cov ⟨H, F, [p]⟩ F [(p, cell s)] H ∧ r1.r F v1 a1 ∧ m s a1 = some (d, s2) ∧ ∀ v F2 H2, Cov ⟨H, F, [p]⟩ F2 [(p, cell s2)] H2 → rr.r F2 v d → Q v H2
theorem MPsp1_len {α1 ρ γ : Type} {cell : γ → Cp} {r1 : Rp α1} {rr : Rp ρ} {m : γ → α1 → Option (ρ × γ)} {vs : List V} {H : Hp} {Q : VK} {E : XK} (h : MPsp1 cell r1 rr m vs H Q E) : vs.length = 2 := by
  obtain ⟨_, _, _, _, _, _, _, rfl, _⟩ := h
  rfl
def s2 {α1 α2 ρ γ : Type} (f : α1 → α2 → γ → Option (ρ × γ)) (m1 : Option (α1 × γ)) (m2 : γ → Option (α2 × γ)) : Option (ρ × γ) := sC (m1) fun a1 s1 => sC (m2 s1) fun a2 s2 => f a1 a2 s2
def Psp2 {α1 α2 ρ : Type} (r1 : Rp α1) (r2 : Rp α2) (rr : Rp ρ) (m : α1 → α2 → Option (ρ)) : Sp := fun vs H Q _ => ∃ (F : Hp) (v1 v2 : V) (a1 : α1) (a2 : α2) (d : ρ), vs = [v1, v2] ∧ Ex F H ∧ r1.r F v1 a1 ∧ r2.r F v2 a2 ∧ m a1 a2 = some d ∧ ∀ v F2 H2, Cov ⟨H, F, []⟩ F2 [] H2 → rr.r F2 v d → Q v H2
theorem Psp2_len {α1 α2 ρ : Type} {r1 : Rp α1} {r2 : Rp α2} {rr : Rp ρ} {m : α1 → α2 → Option (ρ)} {vs : List V} {H : Hp} {Q : VK} {E : XK} (h : Psp2 r1 r2 rr m vs H Q E) : vs.length = 2 := by
  obtain ⟨_, _, _, _, _, _, rfl, _⟩ := h
  rfl
def Fsp2 {α1 α2 ρ : Type} (r1 : Rp α1) (r2 : Rp α2) (rr : Rp ρ) (m : α1 → α2 → Option (List ρ)) : Sp := fun vs H Q _ => ∃ (F : Hp) (v1 v2 : V) (a1 : α1) (a2 : α2) (d : List ρ), vs = [v1, v2] ∧ Ex F H ∧ r1.r F v1 a1 ∧ r2.r F v2 a2 ∧ m a1 a2 = some d ∧ ∀ p F2 H2, Cov ⟨H, F, []⟩ F2 [(p, cLst rr d)] H2 → Q (.ref p) H2
theorem Fsp2_len {α1 α2 ρ : Type} {r1 : Rp α1} {r2 : Rp α2} {rr : Rp ρ} {m : α1 → α2 → Option (List ρ)} {vs : List V} {H : Hp} {Q : VK} {E : XK} (h : Fsp2 r1 r2 rr m vs H Q E) : vs.length = 2 := by
  obtain ⟨_, _, _, _, _, _, rfl, _⟩ := h
  rfl
def o3 {α1 α2 α3 ρ : Type} (f : α1 → α2 → α3 → Option ρ) (m1 : Option α1) (m2 : Option α2) (m3 : Option α3) : Option ρ := m1.bind fun a1 => m2.bind fun a2 => m3.bind fun a3 => f a1 a2 a3
def s3 {α1 α2 α3 ρ γ : Type} (f : α1 → α2 → α3 → γ → Option (ρ × γ)) (m1 : Option (α1 × γ)) (m2 : γ → Option (α2 × γ)) (m3 : γ → Option (α3 × γ)) : Option (ρ × γ) := sC (m1) fun a1 s1 => sC (m2 s1) fun a2 s2 => sC (m3 s2) fun a3 s3 => f a1 a2 a3 s3
def o4 {α1 α2 α3 α4 ρ : Type} (f : α1 → α2 → α3 → α4 → Option ρ) (m1 : Option α1) (m2 : Option α2) (m3 : Option α3) (m4 : Option α4) : Option ρ := m1.bind fun a1 => m2.bind fun a2 => m3.bind fun a3 => m4.bind fun a4 => f a1 a2 a3 a4
def s4 {α1 α2 α3 α4 ρ γ : Type} (f : α1 → α2 → α3 → α4 → γ → Option (ρ × γ)) (m1 : Option (α1 × γ)) (m2 : γ → Option (α2 × γ)) (m3 : γ → Option (α3 × γ)) (m4 : γ → Option (α4 × γ)) : Option (ρ × γ) := sC (m1) fun a1 s1 => sC (m2 s1) fun a2 s2 => sC (m3 s2) fun a3 s3 => sC (m4 s3) fun a4 s4 => f a1 a2 a3 a4 s4
def s5 {α1 α2 α3 α4 α5 ρ γ : Type} (f : α1 → α2 → α3 → α4 → α5 → γ → Option (ρ × γ)) (m1 : Option (α1 × γ)) (m2 : γ → Option (α2 × γ)) (m3 : γ → Option (α3 × γ)) (m4 : γ → Option (α4 × γ)) (m5 : γ → Option (α5 × γ)) : Option (ρ × γ) := sC (m1) fun a1 s1 => sC (m2 s1) fun a2 s2 => sC (m3 s2) fun a3 s3 => sC (m4 s3) fun a4 s4 => sC (m5 s4) fun a5 s5 => f a1 a2 a3 a4 a5 s5
def s6 {α1 α2 α3 α4 α5 α6 ρ γ : Type} (f : α1 → α2 → α3 → α4 → α5 → α6 → γ → Option (ρ × γ)) (m1 : Option (α1 × γ)) (m2 : γ → Option (α2 × γ)) (m3 : γ → Option (α3 × γ)) (m4 : γ → Option (α4 × γ)) (m5 : γ → Option (α5 × γ)) (m6 : γ → Option (α6 × γ)) : Option (ρ × γ) := sC (m1) fun a1 s1 => sC (m2 s1) fun a2 s2 => sC (m3 s2) fun a3 s3 => sC (m4 s3) fun a4 s4 => sC (m5 s4) fun a5 s5 => sC (m6 s5) fun a6 s6 => f a1 a2 a3 a4 a5 a6 s6
def MPsp0 {ρ γ : Type} (cell : γ → Cp) (rr : Rp ρ) (m : γ → Option (ρ × γ)) : Sp := fun vs H Q _ => ∃ (F : Hp) (p : Addr) (s : γ) (d : ρ) (s2 : γ), vs = [.ref p] ∧ Cov ⟨H, F, [p]⟩ F [(p, cell s)] H ∧ m s = some (d, s2) ∧ ∀ v F2 H2, Cov ⟨H, F, [p]⟩ F2 [(p, cell s2)] H2 → rr.r F2 v d → Q v H2
theorem MPsp0_len {ρ γ : Type} {cell : γ → Cp} {rr : Rp ρ} {m : γ → Option (ρ × γ)} {vs : List V} {H : Hp} {Q : VK} {E : XK} (h : MPsp0 cell rr m vs H Q E) : vs.length = 1 := by
  obtain ⟨_, _, _, _, _, rfl, _⟩ := h
  rfl
section
variable {σ : L2.St} {F : Hp} {cs : Cs}
theorem em_Pcall1 {α1 ρ : Type} {r1 : Rp α1} {rr : Rp ρ} {E : XK} {t1 : TE} {m : α1 → Option (ρ)} {m1 : Option α1} (h1 : EM r1 t1 σ F cs m1) : EM rr (tCall (Psp1 r1 rr m) [] E (tCons t1 tNil)) σ F cs (o1 m m1) := fun d q c F0 H0 e0 k0 Q hQ => by
  obtain ⟨a1, q1, q⟩ := o1_some q
  refine h1 a1 q1 c F0 H0 e0 k0 _ fun v1 F1 H1 e1 k1 x1 => ?_
  have f1 := e0.trans e1
  exact ⟨F1, v1, a1, d, rfl, k1.ex, x1, q, fun v F9 H9 k9 r9 => hQ v F9 H9 ((e1).trans k9.fz) (k1.call0 k9) r9⟩
theorem em_Pcall2 {α1 α2 ρ : Type} {r1 : Rp α1} {r2 : Rp α2} {rr : Rp ρ} {E : XK} {t1 t2 : TE} {m : α1 → α2 → Option (ρ)} {m1 : Option α1} {m2 : Option α2} (h1 : EM r1 t1 σ F cs m1) (h2 : EM r2 t2 σ F cs m2) : EM rr (tCall (Psp2 r1 r2 rr m) [] E (tCons t1 (tCons t2 tNil))) σ F cs (o2 m m1 m2) := fun d q c F0 H0 e0 k0 Q hQ => by
  obtain ⟨a1, a2, q1, q2, q⟩ := o2_some q
  refine h1 a1 q1 c F0 H0 e0 k0 _ fun v1 F1 H1 e1 k1 x1 => ?_
  have f1 := e0.trans e1
  refine h2 a2 q2 c F1 H1 f1 k1 _ fun v2 F2 H2 e2 k2 x2 => ?_
  have f2 := f1.trans e2
  exact ⟨F2, v1, v2, a1, a2, d, rfl, k2.ex, r1.up (e2) x1, x2, q, fun v F9 H9 k9 r9 => hQ v F9 H9 (((e1).trans e2).trans k9.fz) (k2.call0 k9) r9⟩
theorem em_Fcall2 {α1 α2 ρ : Type} {r1 : Rp α1} {r2 : Rp α2} {rr : Rp ρ} {E : XK} {t1 t2 : TE} {m : α1 → α2 → Option (List ρ)} {m1 : Option α1} {m2 : Option α2} (h1 : EM r1 t1 σ F cs m1) (h2 : EM r2 t2 σ F cs m2) : EF rr (tCall (Fsp2 r1 r2 rr m) [] E (tCons t1 (tCons t2 tNil))) σ F cs (o2 m m1 m2) := fun d q c F0 H0 e0 k0 Q hQ => by
  obtain ⟨a1, a2, q1, q2, q⟩ := o2_some q
  refine h1 a1 q1 c F0 H0 e0 k0 _ fun v1 F1 H1 e1 k1 x1 => ?_
  have f1 := e0.trans e1
  refine h2 a2 q2 c F1 H1 f1 k1 _ fun v2 F2 H2 e2 k2 x2 => ?_
  have f2 := f1.trans e2
  exact ⟨F2, v1, v2, a1, a2, d, rfl, k2.ex, r1.up (e2) x1, x2, q, fun p F9 H9 k9 => hQ p F9 H9 (((e1).trans e2).trans k9.fz) (k2.call0n k9) (k2.dom p (Or.resolve_left (k9.old_new (p, cLst rr d) List.mem_cons_self) List.not_mem_nil))⟩
end
section
variable {σ : L2.St} {F : Hp} {γ : Type} {cs : γ → Cs} {s : γ}
theorem sm_Mcall0 { ρ : Type} {rr : Rp ρ} {E : XK} {cell : γ → Cp} {p : Addr} {i0 j0 : Nat} {m : γ → Option (ρ × γ)}  (hv : σ[i0]? = some (some (.ref p))) (hi : ∀ s, (cs s)[j0]? = some (p, cell s)) (hz : ∀ s s2, (cs s).set j0 (p, cell s2) = cs s2)  : SM rr (tCall (MPsp0 cell  rr m) [] E (tCons (tVar i0) tNil)) σ F (cs s) (m s) cs := fun d g q c F0 H0 f0 k0 Q hQ => by
  refine ⟨_, hv, ?_⟩
  exact ⟨F0, p, s, d, g, rfl, k0.preAt j0 (hi s), q, fun v F9 H9 k9 r9 => hQ v F9 H9 (k9.fz) (by have z := k0.callAt j0 (hi s) k9; rw [hz] at z; exact z) r9⟩
theorem sm_Mcall1 {α1 ρ : Type} {r1 : Rp α1} {rr : Rp ρ} {E : XK} {t1 : TE} {cell : γ → Cp} {p : Addr} {i0 j0 : Nat} {m : γ → α1 → Option (ρ × γ)} {m1 : Option (α1 × γ)} (hv : σ[i0]? = some (some (.ref p))) (hi : ∀ s, (cs s)[j0]? = some (p, cell s)) (hz : ∀ s s2, (cs s).set j0 (p, cell s2) = cs s2) (h1 : SM r1 t1 σ F (cs s) (m1) cs) : SM rr (tCall (MPsp1 cell r1 rr m) [] E (tCons (tVar i0) (tCons t1 tNil))) σ F (cs s) (s1 (fun a1 s => m s a1) m1) cs := fun d g q c F0 H0 f0 k0 Q hQ => by
  refine ⟨_, hv, ?_⟩
  unfold s1 at q
  obtain ⟨a1, s1, q1, q⟩ := sC_some q
  refine (h1) a1 s1 q1 c F0 H0 f0 k0 _ fun v1 F1 H1 e1 k1 x1 => ?_
  have f1 := f0.trans e1
  have g1 := e1
  exact ⟨F1, p, v1, s1, a1, d, g, rfl, k1.preAt j0 (hi s1), x1, q, fun v F9 H9 k9 r9 => hQ v F9 H9 (g1.trans k9.fz) (by have z := k1.callAt j0 (hi s1) k9; rw [hz] at z; exact z) r9⟩
end
section
variable {σ : L2.St} {F : Hp} {cs : Cs}
theorem em_Tcall0 {α  ρ : Type} {ra : Rp α}  {rr : Rp ρ} {E : XK} {ta  : TE} {m : List α → Option (ρ × List α)} {ma : Option (List α)}  (h : EF ra ta σ F cs ma)  : EM rr (tCall (MPsp0 (fun z => cLst ra z)  rr m) [] E (tCons ta tNil)) σ F cs (ma.bind fun t => (m t ).bind fun r => some r.1) := fun d q c F0 H0 e0 k0 Q hQ => by
  obtain ⟨t, q0, q⟩ := bind_some q
  obtain ⟨r, qr, q⟩ := bind_some q
  cases q
  refine h t q0 c F0 H0 e0 k0 _ fun p G0 J0 g0 k0 n0 => ?_
  have f0 := e0.trans g0
  refine ⟨G0, p, t, r.1, r.2, rfl, k0.preAt cs.length (x := cLst ra t) (by simp), qr, fun v F9 H9 k9 r9 => hQ v F9 H9 (g0.trans k9.fz) ?_ r9⟩
  have z := (k0.callAt cs.length (x := cLst ra t) (by simp) k9).keepN cs.length
  rw [List.set_append_right _ _ (Nat.le_refl _), List.take_left] at z
  exact z
end
end Mw

set_option maxHeartbeats 2000000
namespace Mw
open PySem L2
open Evl (Ex)
/-! ### S: composition -/
section
variable {α β γ ρ : Type} {ra : Rp α} {rb : Rp β} {rc : Rp ρ} {σ : L2.St} {F : Hp} {cs : γ → Cs} {s : γ} {ta tb te : TE} {t u : TT} {K : PySem.W.Frag}
theorem EM.sm {m : Option α} (h : EM ra te σ F (cs s) m) : SM ra te σ F (cs s) (sP m s) cs := fun d g q c F1 H e k Q hQ => by
  obtain ⟨q1, q2⟩ := sP_some q
  subst q2
  exact h d q1 c F1 H e k Q hQ
theorem EF.sf {m : Option (List α)} (h : EF ra te σ F (cs s) m) : SF ra te σ F (cs s) (sP m s) cs := fun d g q c F1 H e k Q hQ => by
  obtain ⟨q1, q2⟩ := sP_some q
  subst q2
  exact h d q1 c F1 H e k Q hQ
theorem ET.st {m : Option Bool} (h : ET t σ F (cs s) m) : ST t σ F (cs s) (sP m s) cs := fun d g q c F1 H e k Q hQ => by
  obtain ⟨q1, q2⟩ := sP_some q
  subst q2
  exact h d q1 c F1 H e k Q hQ
/-- a new list, frozen -/
theorem SF.sm {m : Option (List α × γ)} (h : SF ra te σ F (cs s) m cs) : SM (rLst ra) te σ F (cs s) m cs := fun d g q c F1 H e k Q hQ => by
  refine h d g q c F1 H e k Q fun p F2 H2 e2 k2 n2 => ?_
  obtain ⟨f1, _, o, f3, vs, rfl, f4⟩ := k2.cell (p, cLst ra d) (List.mem_append_right _ List.mem_cons_self)
  exact hQ (.ref p) _ H2 (e2.trans (Ex.new f1)) (k2.toHead.freeze f3 n2 |>.perm (by rw [List.append_nil])) ⟨p, vs, rfl, upd_same, Rs.up (Ex.new f1) f4⟩
theorem sm_op {rd : R2} {g : α → β → Option ρ} (hv : VO rd ra rb rc g) {ma : Option (α × γ)} {mb : γ → Option (β × γ)} (ha : SM ra ta σ F (cs s) ma cs) (hb : ∀ s, SM rb tb σ F (cs s) (mb s) cs) :
    SM rc (tOp rd ta tb) σ F (cs s) (s2 (fun a b s => sK s (g a b)) ma mb) cs := fun d g0 q c F0 H0 f0 k0 Q hQ => by
  unfold s2 at q
  obtain ⟨a, s1, q1, q⟩ := sC_some q
  obtain ⟨b, s2, q2, q⟩ := sC_some q
  obtain ⟨q3, eg⟩ := sP_some q
  subst eg
  refine ha a s1 q1 c F0 H0 f0 k0 _ fun x F2 H2 e2 k2 r2 => hb s1 b _ q2 c F2 H2 (f0.trans e2) k2 _ fun y F3 H3 e3 k3 r3 => hv c F3 _ H3 x y a b d k3 (ra.up e3 r2) r3 q3 Q fun z F4 H4 e4 k4 r4 => hQ z F4 H4 ((e2.trans e3).trans e4) k4 r4
theorem sm_ix {ma : Option (List α × γ)} {mi : γ → Option (Int × γ)} (ha : SM (rLst ra) ta σ F (cs s) ma cs) (hb : ∀ s, SM rInt tb σ F (cs s) (mi s) cs) :
    SM ra (tOp (rIxL K) ta tb) σ F (cs s) (s2 (fun a b s => sK s (ixG a b)) ma mi) cs := fun d g0 q c F0 H0 f0 k0 Q hQ => by
  unfold s2 at q
  obtain ⟨a, s1, q1, q⟩ := sC_some q
  obtain ⟨b, s2, q2, q⟩ := sC_some q
  obtain ⟨q3, eg⟩ := sP_some q
  subst eg
  refine ha a s1 q1 c F0 H0 f0 k0 _ fun x F2 H2 e2 k2 r2 => hb s1 b _ q2 c F2 H2 (f0.trans e2) k2 _ fun y F3 H3 e3 k3 r3 => ?_
  cases r3
  obtain ⟨p, vs, rfl, h1, h2⟩ := (rLst ra).up e3 r2
  obtain ⟨v, h3, h4⟩ := rs_at h2 q3
  exact ⟨p, vs, b, v, rfl, rfl, SqL.of (k3.ex _ _ h1), h3, hQ v F3 H3 (e2.trans e3) k3 h4⟩
def sAnd {γ : Type} (a : Option (Bool × γ)) (b : γ → Option (Bool × γ)) : Option (Bool × γ) := sC a fun x s => if x = true then b s else some (false, s)
def sOr {γ : Type} (a : Option (Bool × γ)) (b : γ → Option (Bool × γ)) : Option (Bool × γ) := sC a fun x s => if x = true then some (true, s) else b s
def sNot {γ : Type} (a : Option (Bool × γ)) : Option (Bool × γ) := sC a fun x s => some (!x, s)
def sCons {α γ : Type} (a : Option (α × γ)) (l : γ → Option (List α × γ)) : Option (List α × γ) := sC a fun x s => sC (l s) fun r s => some (x :: r, s)
theorem sa_nil : SA ra tNil σ F (cs s) (some ([], s)) cs := fun d g q c F1 H e k Q hQ => by
  cases q
  exact hQ [] F1 H (Evl.Ex.refl _) k .nil
theorem sa_cons {ma : Option (α × γ)} {tr : TA} {l : γ → Option (List α × γ)} (h : SM ra ta σ F (cs s) ma cs) (hr : ∀ s, SA ra tr σ F (cs s) (l s) cs) : SA ra (tCons ta tr) σ F (cs s) (sCons ma l) cs := fun d g q c F1 H e k Q hQ => by
  obtain ⟨a, s1, q1, q⟩ := sC_some q
  obtain ⟨b, s2, q2, q⟩ := sC_some q
  cases q
  exact h a s1 q1 c F1 H e k _ fun v F2 H2 e2 k2 r2 => hr s1 b _ q2 c F2 H2 (e.trans e2) k2 _ fun vs F3 H3 e3 k3 r3 => hQ (v :: vs) F3 H3 (e2.trans e3) k3 (.cons (ra.up e3 r2) r3)
theorem sf_lst {ta : TA} {l : Option (List α × γ)} (h : SA ra ta σ F (cs s) l cs) : SF ra (tLst ta) σ F (cs s) (s1 (fun a s => sK s (szG a)) l) cs := fun d g q c F1 H e k Q hQ => by
  unfold s1 at q
  obtain ⟨a, s1, q1, q⟩ := sC_some q
  obtain ⟨q3, eg⟩ := sP_some q
  subst eg
  obtain ⟨rfl, hl⟩ := szG_some q3
  refine h _ _ q1 c F1 H e k _ fun vs F2 H2 e2 k2 r2 => ⟨sz_ok (by rw [r2.length]; exact hl), fun p hp => hQ p F2 _ e2 (k2.own hp ⟨vs, rfl, r2⟩) (k2.dom p hp)⟩
end

/-! ### what is walked -/
structure Goes {α : Type} (J : It) (F : Hp) (ra : Rp α) (ds : List α) : Prop where
  go : ∀ i d, ds[i]? = some d → ∀ c F' cs H, Ex F F' → Cov c F' cs H → J.go i H ∧ ∀ x H', J.yld i H x H' → ∃ F'', Ex F' F'' ∧ (∀ c cs, Cov c F' cs H → Cov c F'' cs H') ∧ ra.r F'' x d
  stop : ∀ c F' cs H, Ex F F' → Cov c F' cs H → J.stop ds.length H
def EI {α : Type} (ra : Rp α) (wi : TI) (σ : L2.St) (F : Hp) (cs : Cs) (m : Option (List α)) : Prop := ∀ ds, m = some ds → ∀ c F1 H, Ex F F1 → Cov c F1 cs H → ∀ R : It → Hp → Prop, (∀ J F2 H2, Ex F1 F2 → Cov c F2 cs H2 → Goes J F2 ra ds → R J H2) → wi σ H R
section
variable {α : Type} {ra : Rp α} {σ : L2.St} {F H : Hp} {cs : Cs} {K : PySem.W.Frag} {te : TE}
theorem goes_list' {a : Addr} {vs : List V} {ds : List α} (h : SqL K F a vs) (r : Rs ra F vs ds) : Goes (Itl K a) F ra ds where
  go := fun i d hd c F' cs H e k => by
    obtain ⟨v, h1, h2⟩ := rs_get r hd
    refine ⟨⟨vs, v, Evl.ex_l (e.trans k.ex) h, h1⟩, fun x H' y => ?_⟩
    obtain ⟨y1, y2⟩ := y
    subst y1
    have z := y2 vs (Evl.ex_l (e.trans k.ex) h)
    rw [h1] at z
    cases z
    exact ⟨F', Evl.Ex.refl _, fun _ _ k => k, ra.up e h2⟩
  stop := fun c F' cs H e k => ⟨vs, Evl.ex_l (e.trans k.ex) h, by rw [r.length]; exact Nat.le_refl _⟩
/-- lo, lo + 1, .. -/
def rngL (lo hi : Int) : List Int := (List.range (hi - lo).toNat).map fun (i : Nat) => lo + (i : Int)
theorem rngL_get {lo hi : Int} {i : Nat} {d : Int} (h : (rngL lo hi)[i]? = some d) : i < (hi - lo).toNat ∧ d = lo + (i : Int) := by
  unfold rngL at h
  rw [List.getElem?_map] at h
  by_cases q : i < (hi - lo).toNat
  · rw [List.getElem?_range q] at h
    cases h
    exact ⟨q, rfl⟩
  · rw [List.getElem?_eq_none (by rw [List.length_range]; omega)] at h
    cases h
theorem rngL_len (lo hi : Int) : (rngL lo hi).length = (hi - lo).toNat := by
  unfold rngL
  rw [List.length_map, List.length_range]
theorem goes_rng {lo hi : Int} : Goes (Itr lo (hi - lo).toNat) F rInt (rngL lo hi) where
  go := fun i d hd c F' cs H e k => by
    obtain ⟨h1, h2⟩ := rngL_get hd
    refine ⟨h1, fun x H' y => ?_⟩
    obtain ⟨y1, y2⟩ := y
    subst y1 y2 h2
    exact ⟨F', Evl.Ex.refl _, fun _ _ k => k, rfl⟩
  stop := fun c F' cs H e k => by
    show (hi - lo).toNat ≤ _
    rw [rngL_len]
    exact Nat.le_refl _
theorem ei_list {m : Option (List α)} (h : EM (rLst ra) te σ F cs m) : EI ra (iList K te) σ F cs m := fun ds q c F1 H e k R hR => h ds q c F1 H e k _ fun v F2 H2 e2 k2 r2 => by
  obtain ⟨a, vs, rfl, h1, h2⟩ := r2
  exact ⟨a, rfl, ⟨vs, SqL.of (k2.ex _ _ h1)⟩, hR _ F2 H2 e2 k2 (goes_list' (SqL.of h1) h2)⟩
def rngG (hi : Int) : Option (List Int) := if -(2 ^ 62) ≤ hi ∧ hi < 2 ^ 62 then some (rngL 0 hi) else none
theorem ei_rng1 {m : Option Int} (h : EM rInt te σ F cs m) : EI rInt (iRng1 (tCons te tNil)) σ F cs (o1 rngG m) := fun ds q c F1 H e k R hR => by
  obtain ⟨j, q1, q2⟩ := o1_some q
  unfold rngG at q2
  split at q2
  · rename_i g
    cases q2
    refine h j q1 c F1 H e k _ fun v F2 H2 e2 k2 r2 => ?_
    cases r2
    have z := hR (Itr 0 (j - 0).toNat) F2 H2 e2 k2 goes_rng
    rw [Int.sub_zero] at z
    exact ⟨j, rfl, g.1, g.2, z⟩
  · cases q2
end

/-! ### comprehensions -/
def oMap {α β : Type} (t : α → Option Bool) (f : α → Option β) : List α → Option (List β)
  | [] => some []
  | a :: l => (t a).bind fun b => if b = true then (f a).bind fun x => (oMap t f l).bind fun r => some (x :: r) else oMap t f l
def yes {α : Type} : α → Option Bool := fun _ => some true
def oLc {α β : Type} (t : α → Option Bool) (f : α → Option β) (l : List α) : Option (List β) := if l.length ≤ 16000000 then oMap t f l else none
def sMap {α β γ : Type} (f : α → γ → Option (β × γ)) : List α → γ → Option (List β × γ)
  | [], s => some ([], s)
  | a :: l, s => sC (f a s) fun x s => sC (sMap f l s) fun r s => some (x :: r, s)
def sLc {α β γ : Type} (f : α → γ → Option (β × γ)) (l : List α) (s : γ) : Option (List β × γ) := if l.length ≤ 16000000 then sMap f l s else none
/-- a target takes a value: the slots behind it, and what is known there -/
def GT {α : Type} (g : TG) (ra : Rp α) (K : PySem.W.Frag) (σ : L2.St) (S : α → Hp → L2.St → Prop) : Prop := ∀ c F cs H v d, Cov c F cs H → ra.r F v d → ∀ Q : L2.St → Hp → Prop, (∀ σ2, S d F σ2 → Q σ2 H) → g v σ H Q
section
variable {α β γ : Type} {ra : Rp α} {rb : Rp β} {σ : L2.St} {F H : Hp} {cs : Cs} {K : PySem.W.Frag} {te : TE} {wi : TI} {g : TG} {tt : TT} {vs : List Nat}
theorem gt_name {j : Nat} {σ1 : V → L2.St} (h : ∀ v, σ.set j (some v) = σ1 v) : GT (gName j) ra K σ (fun d F σ2 => ∃ v, σ2 = σ1 v ∧ ra.r F v d) := fun c F cs H v d k r Q hQ => hQ _ ⟨v, h v, r⟩
theorem oMap_drop {t : α → Option Bool} {f : α → Option β} {ds : List α} {i : Nat} {d : α} (h : ds[i]? = some d) : oMap t f (ds.drop i) = (t d).bind fun b => if b = true then (f d).bind fun x => (oMap t f (ds.drop (i + 1))).bind fun r => some (x :: r) else oMap t f (ds.drop (i + 1)) := by
  obtain ⟨h1, h2⟩ := List.getElem?_eq_some_iff.mp h
  rw [List.drop_eq_getElem_cons h1, h2] <;> rfl
theorem sz_lt {n : Nat} (h : n < 16000001) : n < sizeLine := by
  rw [sizeLine_eq]; omega
/-- [e for target in .. if ..] -/
theorem ef_lc {m : Option (List α)} {t : α → Option Bool} {f : α → Option β} {S : α → Hp → L2.St → Prop} (hw : EI ra wi σ F cs m) (hg : GT g ra K (wipe σ vs) S) (hs : ∀ d F σ2, S d F σ2 → wipe σ2 vs = wipe σ vs)
    (ht : ∀ d F1 σ2, Ex F F1 → S d F1 σ2 → ET tt σ2 F1 cs (t d)) (he : ∀ d F1 σ2, Ex F F1 → S d F1 σ2 → EM rb te σ2 F1 cs (f d)) : EF rb (tLc wi g tt te vs) σ F cs (o1 (oLc t f) m) := fun r q c F1 H1 e1 k1 Q hQ => by
  obtain ⟨ds, q1, q2⟩ := o1_some q
  unfold oLc at q2
  split at q2
  case isFalse => cases q2
  rename_i hlen
  refine hw ds q1 c F1 H1 e1 k1 _ fun J F2 H2 e2 k2 G => fun D hD => ?_
  have hD0 := k2.dom D hD
  refine ⟨fun i m H => m = ds.length - i ∧ i ≤ ds.length ∧ ∃ F' acc rest, Ex F2 F' ∧ oMap t f (ds.drop i) = some rest ∧ r = acc ++ rest ∧ acc.length ≤ i ∧ Cov c F' (cs ++ [(D, cLst rb acc)]) H,
    ⟨ds.length, by simp, Nat.zero_le _, F2, [], r, Evl.Ex.refl _, q2, rfl, Nat.le_refl _, k2.own hD ⟨[], rfl, .nil⟩⟩, ?_⟩
  rintro i m H ⟨rfl, hi, F', acc, rest, e3, hr, eq, la, k3⟩
  by_cases hlt : i < ds.length
  · have hd : ds[i]? = some ds[i] := by simp [hlt]
    obtain ⟨g1, g2⟩ := G.go i _ hd c F' _ H e3 k3
    refine .inr ⟨g1, fun H => ∃ F' acc rest, Ex F2 F' ∧ oMap t f (ds.drop (i + 1)) = some rest ∧ r = acc ++ rest ∧ acc.length ≤ i + 1 ∧ Cov c F' (cs ++ [(D, cLst rb acc)]) H, fun H' ⟨F', acc, rest, z⟩ => ⟨ds.length - (i + 1), by omega, rfl, hlt, F', acc, rest, z⟩, fun x H' y => ?_⟩
    obtain ⟨F4, e4, c4, r4⟩ := g2 x H' y
    have k4 := c4 c _ k3
    rw [oMap_drop hd] at hr
    obtain ⟨b, h1, hr⟩ := bind_some hr
    refine hg c F4 _ H' x _ k4 r4 _ fun σ2 s2 => ⟨hs _ _ _ s2, ?_⟩
    -- the test, the cells without D, rebased
    have kk : Cov c F4 cs H' := by
      have z := k4.keepN cs.length
      rw [List.take_left] at z
      exact z
    have e04 : Ex F F4 := ((e1.trans e2).trans e3).trans e4
    refine ht _ F4 σ2 e04 s2 b h1 _ F4 H' (Evl.Ex.refl _) kk.base _ fun F5 H5 e5 k5 => ?_
    have k5' : Cov c F5 (cs ++ [(D, cLst rb acc)]) H5 := k4.back k5 (Cov.old_ps k5)
    cases b with
    | true =>
      obtain ⟨z, h2, hr⟩ := bind_some hr
      obtain ⟨rr, h3, hr⟩ := bind_some hr
      cases hr
      have kk5 : Cov c F5 cs H5 := by
        have z := k5'.keepN cs.length
        rw [List.take_left] at z
        exact z
      show te σ2 H5 _
      refine he _ F4 σ2 e04 s2 z h2 _ F5 H5 e5 kk5.base _ fun v F6 H6 e6 k6 r6 => ?_
      have k6' : Cov c F6 (cs ++ [(D, cLst rb acc)]) H6 := k5'.back k6 (Cov.old_ps k6)
      obtain ⟨f1, _, o, f3, ws, rfl, f4⟩ := k6'.cell (D, cLst rb acc) (List.mem_append_right _ List.mem_cons_self)
      refine ⟨ws, f3, sz_lt (by rw [f4.length]; omega), F6, acc ++ [z], rr, ((e3.trans e4).trans e5).trans e6, h3, by rw [eq]; simp, by simp; omega, ?_⟩
      have k7 := k6'.set cs.length (p := D) (x := cLst rb acc) (x' := cLst rb (acc ++ [z])) (o := .lst (ws ++ [v])) (by simp) ⟨ws ++ [v], rfl, f4.snoc r6⟩
      rw [List.set_append_right _ _ (Nat.le_refl _), Nat.sub_self] at k7
      exact k7
    | false =>
      exact ⟨F5, acc, rest, (e3.trans e4).trans e5, hr, eq, by omega, k5'⟩
  · have e : i = ds.length := by omega
    subst e
    rw [List.drop_length] at hr
    cases hr
    rw [List.append_nil] at eq
    subst eq
    exact .inl ⟨G.stop c F' _ H e3 k3, hQ D F' H (e2.trans e3) k3 hD0⟩
theorem et_yes {σ : L2.St} {d : α} : ET tYes σ F cs (yes d) := fun b q c F1 H e k Q hQ => by cases q; exact hQ F1 H (Evl.Ex.refl _) k
theorem sMap_drop {f : α → γ → Option (β × γ)} {ds : List α} {i : Nat} {d : α} {s : γ} (h : ds[i]? = some d) : sMap f (ds.drop i) s = sC (f d s) fun x s => sC (sMap f (ds.drop (i + 1)) s) fun r s => some (x :: r, s) := by
  obtain ⟨h1, h2⟩ := List.getElem?_eq_some_iff.mp h
  rw [List.drop_eq_getElem_cons h1, h2] <;> rfl
end
end Mw

set_option maxHeartbeats 2000000
namespace Mw
open PySem L2
open Evl (Ex)
/-! ### loops, as data -/
/-- how a turn ends -/
inductive Lp (γ ρ : Type) where
  | go (g : γ)
  | brk (g : γ)
  | ret (r : ρ)
/-- how a loop ends -/
inductive Out (γ ρ : Type) where
  | nx (g : γ)
  | ret (r : ρ)
def oLoop {α γ ρ : Type} (f : α → γ → Option (Lp γ ρ)) : List α → γ → Option (Out γ ρ)
  | [], g => some (.nx g)
  | a :: l, g => (f a g).bind fun o => match o with
    | .go g' => oLoop f l g'
    | .brk g' => some (.nx g')
    | .ret r => some (.ret r)
/-! ### statements -/
section
variable {α β γ ρ : Type} {ra : Rp α} {rb : Rp β} {σ : L2.St} {F H : Hp} {cs : Cs} {K : PySem.W.Frag} {te ta tb : TE} {t : TT} {tu tw tz : TS} {D : Ends} {c : Act} {d : α} {m : Option α}
theorem sq {t1 t2 : TS} (h : t1 { D with nx := t2 D } σ H) : tSeq t1 t2 D σ H := h
theorem a_set {i : Nat} (h : EM ra te σ F cs m) (hm : m = some d) (k : Cov c F cs H) (n : ∀ v F2 H2, Ex F F2 → Cov c F2 cs H2 → ra.r F2 v d → D.nx (σ.set i (some v)) H2) : tAsg te (gName i) D σ H := h d hm c F H (Evl.Ex.refl _) k _ fun v F2 H2 e2 k2 r2 => n v F2 H2 e2 k2 r2
theorem q_set {i : Nat} (h : EM ra te σ F cs m) (hm : m = some d) (k : Cov c F cs H) (n : ∀ v F2 H2, Ex F F2 → Cov c F2 cs H2 → ra.r F2 v d → tz D (σ.set i (some v)) H2) : tSeq (tAsg te (gName i)) tz D σ H := a_set (D := { D with nx := tz D }) h hm k n
theorem a_setS {i : Nat} {cs' : γ → Cs} {g : γ} {m : Option (α × γ)} (h : SM ra te σ F cs m cs') (hm : m = some (d, g)) (k : Cov c F cs H) (n : ∀ v F2 H2, Ex F F2 → Cov c F2 (cs' g) H2 → ra.r F2 v d → D.nx (σ.set i (some v)) H2) : tAsg te (gName i) D σ H := h d g hm c F H (Evl.Ex.refl _) k _ fun v F2 H2 e2 k2 r2 => n v F2 H2 e2 k2 r2
theorem q_setS {i : Nat} {cs' : γ → Cs} {g : γ} {m : Option (α × γ)} (h : SM ra te σ F cs m cs') (hm : m = some (d, g)) (k : Cov c F cs H) (n : ∀ v F2 H2, Ex F F2 → Cov c F2 (cs' g) H2 → ra.r F2 v d → tz D (σ.set i (some v)) H2) : tSeq (tAsg te (gName i)) tz D σ H := a_setS (D := { D with nx := tz D }) h hm k n
theorem a_setSF {i : Nat} {cs' : γ → Cs} {g : γ} {ds : List α} {m : Option (List α × γ)} (h : SF ra te σ F cs m cs') (hm : m = some (ds, g)) (k : Cov c F cs H) (n : ∀ p F2 H2, Ex F F2 → Cov c F2 (cs' g ++ [(p, cLst ra ds)]) H2 → c.H0 p = none → D.nx (σ.set i (some (.ref p))) H2) : tAsg te (gName i) D σ H := h ds g hm c F H (Evl.Ex.refl _) k _ fun v F2 H2 e2 k2 r2 => n v F2 H2 e2 k2 r2
theorem q_setSF {i : Nat} {cs' : γ → Cs} {g : γ} {ds : List α} {m : Option (List α × γ)} (h : SF ra te σ F cs m cs') (hm : m = some (ds, g)) (k : Cov c F cs H) (n : ∀ p F2 H2, Ex F F2 → Cov c F2 (cs' g ++ [(p, cLst ra ds)]) H2 → c.H0 p = none → tz D (σ.set i (some (.ref p))) H2) : tSeq (tAsg te (gName i)) tz D σ H := a_setSF (D := { D with nx := tz D }) h hm k n
/-- xs.append(e), xs a cell -/
theorem a_app {i j : Nat} {p : Addr} {ds : List α} (hx : σ[i]? = some (some (.ref p))) (hj : cs[j]? = some (p, cLst ra ds)) (h : EM ra te σ F cs m) (hm : m = some d) (hz : ds.length ≤ 16000000) (k : Cov c F cs H)
    (n : ∀ F2 H2, Ex F F2 → Cov c F2 (cs.set j (p, cLst ra (ds ++ [d]))) H2 → D.nx σ H2) : tDrop (tBM K "list" rAppend (tVar i) (tCons te tNil)) D σ H := by
  refine ⟨_, hx, ?_, ?_⟩
  · obtain ⟨_, _, o, h3, vs, rfl, h4⟩ := k.at_ j hj
    exact .inl ⟨rfl, _, SqL.of h3⟩
  · refine h d hm c F H (Evl.Ex.refl _) k _ fun v F2 H2 e2 k2 r2 => ?_
    obtain ⟨_, _, o, h3, vs, rfl, h4⟩ := k2.at_ j hj
    exact ⟨p, vs, v, rfl, rfl, h3, sz_lt (by rw [h4.length]; omega), n F2 _ e2 (k2.set j hj ⟨_, rfl, h4.snoc r2⟩)⟩
theorem q_app {i j : Nat} {p : Addr} {ds : List α} (hx : σ[i]? = some (some (.ref p))) (hj : cs[j]? = some (p, cLst ra ds)) (h : EM ra te σ F cs m) (hm : m = some d) (hz : ds.length ≤ 16000000) (k : Cov c F cs H)
    (n : ∀ F2 H2, Ex F F2 → Cov c F2 (cs.set j (p, cLst ra (ds ++ [d]))) H2 → tz D σ H2) : tSeq (tDrop (tBM K "list" rAppend (tVar i) (tCons te tNil))) tz D σ H := a_app (D := { D with nx := tz D }) hx hj h hm hz k n
def appG {α : Type} (l : List α) (x : α) : Option (List α) := if l.length ≤ 16000000 then some (l ++ [x]) else none
theorem appG_some {α : Type} {l d : List α} {x : α} (h : appG l x = some d) : d = l ++ [x] ∧ l.length ≤ 16000000 := by
  unfold appG at h
  split at h
  · cases h; exact ⟨rfl, by assumption⟩
  · cases h
/-- xs[i] = e, xs a cell -/
theorem a_sub {i j : Nat} {p : Addr} {ds ds' : List α} {ix : Int} {mi : Option Int} {ti : TE} (hx : σ[i]? = some (some (.ref p))) (hj : cs[j]? = some (p, cLst ra ds)) (h : EM ra te σ F cs m) (hi : EM rInt ti σ F cs mi) (hm : m = some d) (hmi : mi = some ix) (hset : setG ds ix d = some ds') (k : Cov c F cs H)
    (n : ∀ F2 H2, Ex F F2 → Cov c F2 (cs.set j (p, cLst ra ds')) H2 → D.nx σ H2) : tAsg te (gSub (tVar i) ti rSetL) D σ H := by
  refine h d hm c F H (Evl.Ex.refl _) k _ fun v F2 H2 e2 k2 r2 => ?_
  refine ⟨_, hx, hi ix hmi c F2 H2 e2 k2 _ fun w F3 H3 e3 k3 r3 => ?_⟩
  cases r3
  obtain ⟨_, _, o, h3, vs, rfl, h4⟩ := k3.at_ j hj
  unfold setG at hset
  cases q : ixN ds.length ix with
  | none => rw [q] at hset; cases hset
  | some jj =>
    rw [q] at hset
    cases hset
    exact ⟨p, vs, ix, jj, rfl, rfl, h3, by rw [h4.length]; exact q, n F3 _ (e2.trans e3) (k3.set j hj ⟨_, rfl, h4.set jj (ra.up e3 r2)⟩)⟩
theorem q_sub {i j : Nat} {p : Addr} {ds ds' : List α} {ix : Int} {mi : Option Int} {ti : TE} (hx : σ[i]? = some (some (.ref p))) (hj : cs[j]? = some (p, cLst ra ds)) (h : EM ra te σ F cs m) (hi : EM rInt ti σ F cs mi) (hm : m = some d) (hmi : mi = some ix) (hset : setG ds ix d = some ds') (k : Cov c F cs H)
    (n : ∀ F2 H2, Ex F F2 → Cov c F2 (cs.set j (p, cLst ra ds')) H2 → tz D σ H2) : tSeq (tAsg te (gSub (tVar i) ti rSetL)) tz D σ H := a_sub (D := { D with nx := tz D }) hx hj h hi hm hmi hset k n
/-! ifs -/
theorem a_if {b : Bool} {mb : Option Bool} (h : ET t σ F cs mb) (hm : mb = some b) (k : Cov c F cs H) (h1 : b = true → ∀ F2 H2, Ex F F2 → Cov c F2 cs H2 → tu D σ H2) (h2 : b = false → ∀ F2 H2, Ex F F2 → Cov c F2 cs H2 → tw D σ H2) : tIfS t tu tw D σ H := h b hm c F H (Evl.Ex.refl _) k _ fun F2 H2 e2 k2 => by
  cases b with
  | true =>
    show tu D σ H2
    exact h1 rfl F2 H2 e2 k2
  | false =>
    show tw D σ H2
    exact h2 rfl F2 H2 e2 k2
theorem q_cut {Mid : L2.St → Hp → Prop} (h : tu { D with nx := Mid } σ H) (k : ∀ σ' H', Mid σ' H' → tz D σ' H') : Evl.tCut tu tz D σ H := ⟨Mid, h, k⟩
/-! return -/
theorem a_ret (h : EM ra te σ F cs m) (hm : m = some d) (k : Cov c F cs H) (n : ∀ v F2 H2, Ex F F2 → Cov c F2 cs H2 → ra.r F2 v d → D.rt v H2) : tRet te D σ H := h d hm c F H (Evl.Ex.refl _) k _ n
theorem a_retF {ds : List α} {m : Option (List α)} (h : EF ra te σ F cs m) (hm : m = some ds) (k : Cov c F cs H) (n : ∀ p F2 H2, Ex F F2 → Cov c F2 (cs ++ [(p, cLst ra ds)]) H2 → D.rt (.ref p) H2) : tRet te D σ H := h ds hm c F H (Evl.Ex.refl _) k _ fun p F2 H2 e2 k2 n2 => n p F2 H2 e2 k2
theorem a_retS {cs' : γ → Cs} {g : γ} {m : Option (α × γ)} (h : SM ra te σ F cs m cs') (hm : m = some (d, g)) (k : Cov c F cs H) (n : ∀ v F2 H2, Ex F F2 → Cov c F2 (cs' g) H2 → ra.r F2 v d → D.rt v H2) : tRet te D σ H := h d g hm c F H (Evl.Ex.refl _) k _ n
end
/-! ### for -/
section
variable {α γ ρ : Type} {ra : Rp α} {σ : L2.St} {F H : Hp} {cs : Cs} {K : PySem.W.Frag} {wi : TI} {g : TG} {tb tz : TS} {D : Ends} {c : Act} {m : Option (List α)} {ds : List α}
theorem loop_drop {f : α → γ → Option (Lp γ ρ)} {ds : List α} {i : Nat} {d : α} {s : γ} (h : ds[i]? = some d) : oLoop f (ds.drop i) s = (f d s).bind fun o => match o with
    | .go g' => oLoop f (ds.drop (i + 1)) g'
    | .brk g' => some (.nx g')
    | .ret r => some (.ret r) := by
  obtain ⟨h1, h2⟩ := List.getElem?_eq_some_iff.mp h
  rw [List.drop_eq_getElem_cons h1, h2] <;> rfl
/-- the state between two turns: what the invariant says of the data, the slots, the frozen part and the heap -/
abbrev Inva (γ : Type) := γ → L2.St → Hp → Hp → Prop
/-- for, a turn that may leave -/
theorem a_loop {f : α → γ → Option (Lp γ ρ)} {g0 : γ} {out : Out γ ρ} (hw : EI ra wi σ F cs m) (hm : m = some ds) (k : Cov c F cs H) (hf : oLoop f ds g0 = some out)
    (n : ∀ F2 H2, Ex F F2 → Cov c F2 cs H2 → ∃ (J : Inva γ) (cj : γ → Cs), J g0 σ F2 H2 ∧ (∀ x σ' F' H', J x σ' F' H' → Ex F2 F' ∧ Cov c F' (cj x) H') ∧
      (∀ d v x o σ' F' H' F3 H3, J x σ' F' H' → Ex F' F3 → Cov c F3 (cj x) H3 → ra.r F3 v d → f d x = some o → (∀ r, o = .ret r → out = .ret r) → (∀ x', o = .brk x' → out = .nx x') →
        g v σ' H3 fun σ2 H4 => tb { D with nx := fun σ' H' => ∃ F' x', o = .go x' ∧ J x' σ' F' H', ct := fun σ' H' => ∃ F' x', o = .go x' ∧ J x' σ' F' H', bk := D.nx } σ2 H4) ∧
      (∀ x σ' F' H', out = .nx x → J x σ' F' H' → D.nx σ' H')) : tFor wi g tb D σ H := by
  refine hw ds hm c F H (Evl.Ex.refl _) k _ fun J0 F2 H2 e2 k2 G => ?_
  obtain ⟨J, cj, j0, stay, turn, fin⟩ := n F2 H2 e2 k2
  refine ⟨fun i m σ H => m = ds.length - i ∧ i ≤ ds.length ∧ ∃ x F', oLoop f (ds.drop i) x = some out ∧ J x σ F' H, ⟨ds.length, by simp, Nat.zero_le _, g0, F2, hf, j0⟩, ?_⟩
  rintro i m σ H ⟨rfl, hi, x, F', hx, jx⟩
  obtain ⟨e3, k3⟩ := stay _ _ _ _ jx
  by_cases hlt : i < ds.length
  · have hd : ds[i]? = some ds[i] := by simp [hlt]
    obtain ⟨g1', g2⟩ := G.go i _ hd c F' _ H e3 k3
    rw [loop_drop hd] at hx
    obtain ⟨o, h1, h2⟩ := bind_some hx
    refine .inr ⟨g1', fun σ' H' => ∃ F' x', o = .go x' ∧ J x' σ' F' H', fun σ' H' ⟨F'', x', eo, j'⟩ => ⟨ds.length - (i + 1), by omega, rfl, hlt, x', F'', by rw [eo] at h2; exact h2, j'⟩, fun v H' y => ?_⟩
    obtain ⟨F4, e4, c4, r4⟩ := g2 v H' y
    exact turn _ v x o σ F' H F4 H' jx e4 (c4 c _ k3) r4 h1 (fun r er => by rw [er] at h2; exact (Option.some.inj h2).symm) (fun x' er => by rw [er] at h2; exact (Option.some.inj h2).symm)
  · have e : i = ds.length := by omega
    subst e
    rw [List.drop_length] at hx
    cases hx
    exact .inl ⟨G.stop c F' _ H e3 k3, fin x σ F' H rfl jx⟩
end
/-! ### while -/
section
variable {γ ρ : Type} {σ : L2.St} {F H : Hp} {t : TT} {tb : TS} {D : Ends} {c : Act}
end
/-! ### a def, seen by its callers -/
structure Cal (P : Program) (w : World) (K : PySem.W.Frag) (mg : Str → Option Value) (base : Heap) (k : Nat) (x : Str) (ps : List Str) (sp : Sp) (X : FuncData → Prop) : Prop where
  ex : ∃ f fd, FnOk P w K mg base CX0 k f fd ps sp ∧ mg x = some (.ref f) ∧ PySem.W.keepIn K (.ref f) = true ∧ Binds K fd ps [] ∧ X fd
theorem Cov.init {F H : Hp} (h : Ex F H) : Cov ⟨H, F, []⟩ F [] H := ⟨h, Evl.Ex.refl F, fun _ hy => absurd hy List.not_mem_nil, List.nodup_nil, fun _ _ _ e => e, fun _ _ e => Or.inl e, fun _ e => e, fun _ hb => absurd hb List.not_mem_nil⟩
theorem em_powC {σ : L2.St} {F : Hp} {cs : Cs} {a b : Int} {n : Nat} (hb : b = (n : Int)) (hn : n ≤ 1000000) (ha : a.natAbs < 2 ^ 64) : EM rInt (tOp (rI CPow fun i j => .int (i ^ j.toNat)) (tC (.int a)) (tC (.int b))) σ F cs (some (a ^ n)) := fun d q c F1 H e k Q hQ => by
  cases q
  subst hb
  exact ⟨a, n, rfl, rfl, ⟨by omega, by omega, ha⟩, hQ _ F1 H (Evl.Ex.refl _) k (by show V.int (a ^ ((n : Int)).toNat) = _; rw [Int.toNat_natCast])⟩
section
variable {α : Type} {ra : Rp α} {σ : L2.St} {F : Hp} {cs : Cs} {te : TE} {K : PySem.W.Frag} {m : Option α}
end
end Mw

set_option maxHeartbeats 2000000
/-! rules of the machine that the hand layer lacks -/
namespace Mw
open PySem PySem.Spec PyProof.Rows L2
open Evl (Ex)
section
variable {prog : Program} {w : World} {A : Around} {E : Value → Shared → Prop} {s : Shared}
end
section
variable {X : Cx}
end
/-- how a plain def binds keywords -/
theorem kbN {K : PySem.W.Frag} {x qual : Str} {params : Arguments} {body : List Stmt} {scope : Scope} {kws : List (Str × V)} {f : Addr} {fd : FuncData} {ps ks : List Str} {n : Nat} {g : List Value → List Value → List Value} {gV : List V → List V → List V} (F : FunD K x qual params body scope [] kws f fd)
    (rel : ∀ {vs : List V} {us : List Value} {zs : List V} {ws : List Value}, Vals vs us → Vals zs ws → Vals (gV vs zs) (g us ws))
    (h : ∀ (kV doc pm : Value) (an : Option Addr) (cdv ct : Value) (us ws : List Value), us.length = n → ws.length = ks.length → bindArgs (PySem.W.fnOf x qual params body scope .none kV doc pm an cdv ct) ⟨us, ks.zip ws⟩ = pure (ps.zip (g us ws))) : KBn K fd ps n ks g gV := by
  obtain ⟨oc, od, dV, kV, doc, pm, an, cdv, ct, osl, rfl, lk, hcd, hD, hK⟩ := F.ex
  rcases hD with ⟨_, rfl⟩ | ⟨e, _⟩
  · exact ⟨fun s us ws _ l1 l2 => .of_eq (h kV doc pm an cdv ct us ws l1 l2), rel⟩
  · exact absurd rfl e
end Mw

set_option maxHeartbeats 2000000
namespace Mw
open PySem L2
open Evl (Ex)
theorem hT {α : Type} {a b c : α} (h : (if true = true then a else b) = c) : a = c := by rw [if_pos rfl] at h; exact h
theorem hF {α : Type} {a b c : α} (h : (if false = true then a else b) = c) : b = c := by rw [if_neg Bool.false_ne_true] at h; exact h
def oP2 {α β : Type} (a : Option α) (b : Option β) : Option (α × β) := a.bind fun x => b.bind fun y => some (x, y)
def oP3 {α β γ : Type} (a : Option α) (b : Option β) (c : Option γ) : Option (α × β × γ) := a.bind fun x => b.bind fun y => c.bind fun z => some (x, y, z)
theorem nxh {σ : L2.St} {H : Hp} {P : L2.St → Hp → Prop} {rt : VK} {bk ct : L2.St → Hp → Prop} (h : P σ H) : Ends.nx { nx := P, rt := rt, bk := bk, ct := ct } σ H := h
theorem gn {i : Nat} {v : V} {σ : L2.St} {H : Hp} {Q : L2.St → Hp → Prop} {σ1 : L2.St} (e : σ.set i (some v) = σ1) (h : Q σ1 H) : gName i v σ H Q := by
  show Q (σ.set i (some v)) H
  rw [e]
  exact h
section
variable {α β γ ρ : Type} {ra : Rp α} {rb : Rp β} {rc : Rp γ} {σ : L2.St} {F H F' H' : Hp} {cs : Cs} {K : PySem.W.Frag} {te ta tb tc : TE} {t : TT} {tu tw tz : TS} {D : Ends} {c : Act} {d : α} {m : Option α} {x : Cp} {p : Addr} {ds : List α}
/-- an if without else whose way leaves -/
theorem q_ife {b : Bool} {mb : Option Bool} (h : ET t σ F cs mb) (hm : mb = some b) (k : Cov c F cs H) (h1 : b = true → ∀ F2 H2, Ex F F2 → Cov c F2 cs H2 → tu { D with nx := tz D } σ H2) (h2 : b = false → ∀ F2 H2, Ex F F2 → Cov c F2 cs H2 → tz D σ H2) : tSeq (tIfS t tu tNext) tz D σ H := a_if (D := { D with nx := tz D }) h hm k h1 h2
theorem em_weak {m : Option (List α)} (h : EM (rLst ra) te σ F cs m) : EM (rLsW K ra) te σ F cs m := fun d q c F1 H e k Q hQ => h d q c F1 H e k Q fun v F2 H2 e2 k2 r2 => by
  obtain ⟨a, vs, rfl, h1, h2⟩ := r2
  exact hQ _ F2 H2 e2 k2 ⟨a, vs, rfl, SqL.of h1, h2⟩
/-! None or a value -/
/-! in (a, b, ..) -/
def inG (a : Int) (l : List Int) : Option Bool := some (decide (a ∈ l))
def notInG (a : Int) (l : List Int) : Option Bool := some (!decide (a ∈ l))
/-! pairs, triples -/
/-! what is told by isinstance -/
/-! ends -/
theorem Cov.last1 (k : Cov c F (cs ++ [(p, x)]) H) : Cov c F [(p, x)] H := by
  have z := k.toHead
  rw [List.append_nil] at z
  exact z.keepN 1
theorem Cov.only (j : Nat) {y : Addr × Cp} (k : Cov c F cs H) (h : cs[j]? = some y) : Cov c F [y] H := by
  obtain ⟨p, x⟩ := y
  obtain ⟨l1, l2, rfl, _⟩ := Cov.split h
  exact k.toHead.keepN 1
end
end Mw
namespace Mw
open PySem L2
end Mw
namespace Mw
open PySem L2
open Evl (Ex)
theorem Cov.frzL {α : Type} {ra : Rp α} {c : Act} {F H : Hp} {cs : Cs} {p : Addr} {ds : List α} (k : Cov c F cs H) (j : Nat) (hj : cs[j]? = some (p, cLst ra ds)) (hn : c.H0 p = none) : ∃ F2, Ex F F2 ∧ Cov c F2 (cs.eraseIdx j) H ∧ (rLst ra).r F2 (.ref p) ds := by
  obtain ⟨f1, _, o, f3, vs, rfl, f4⟩ := k.at_ j hj
  exact ⟨_, Ex.new f1, k.frzAt j hj f3 hn, p, vs, rfl, upd_same, Rs.up (Ex.new f1) f4⟩
end Mw

set_option maxHeartbeats 2000000
/-! more of the layer: deep equality, tuples joined and cut, zip, enumerate, None or a value -/
namespace Mw
open PySem L2 PyProof RZ
open Evl (Ex)
/-! ### deep equality -/
class Sk (α : Type) where
  ok : α → Bool
instance : Sk Int := ⟨fun _ => true⟩
instance : Sk Bool := ⟨fun _ => true⟩
instance : Sk Unit := ⟨fun _ => true⟩
instance : Sk Str := ⟨fun x => PyData.canLay0 (.str x)⟩
instance {α : Type} [Sk α] : Sk (List α) := ⟨fun l => l.all Sk.ok⟩
instance {α β : Type} [Sk α] [Sk β] : Sk (α × β) := ⟨fun p => Sk.ok p.1 && Sk.ok p.2⟩
instance {α : Type} [Sk α] : Sk (Option α) := ⟨fun o => match o with
  | none => true
  | some a => Sk.ok a⟩
structure Dq (K : PySem.W.Frag) {α : Type} [DecidableEq α] [Sk α] (ra : Rp α) : Type where
  enc : α → PyData
  dep : Nat
  dp : ∀ {H v a}, ra.r H v a → Dp K H v (enc a)
  lay : ∀ a, Sk.ok a = true → (enc a).canLay0 = true
  dpt : ∀ a, (enc a).depth ≤ dep
  inj : ∀ a b, PyData.eqv (enc a) (enc b) = decide (a = b)
section
variable {K : PySem.W.Frag} {α β γ : Type} [DecidableEq α] [Sk α] [DecidableEq β] [Sk β] [DecidableEq γ] [Sk γ] {ra : Rp α} {rb : Rp β} {rc : Rp γ}
def dq_int : Dq K rInt := ⟨.int, 0, fun h => by cases h; exact .int _, fun _ _ => rfl, fun _ => Nat.le_refl _, fun a b => by
  show (a == b) = _
  by_cases h : a = b
  · subst h; simp
  · simp [h]⟩
def dq_bool : Dq K rBool := ⟨.bool, 0, fun h => by cases h; exact .bl _, fun _ _ => rfl, fun _ => Nat.le_refl _, fun a b => by
  show (a == b) = _
  cases a <;> cases b <;> rfl⟩
def dq_str : Dq K rStr := ⟨.str, 0, fun h => by cases h; exact .str _, fun _ h => h, fun _ => Nat.le_refl _, fun a b => by
  show (a == b) = _
  by_cases h : a = b
  · subst h; simp
  · rw [decide_eq_false h]
    simpa using h⟩
theorem dpAll (D : Dq K ra) {H : Hp} : ∀ {vs : List V} {ds : List α}, Rs ra H vs ds → DpAll K H vs (ds.map D.enc)
  | _, _, .nil => .nil
  | _, _, .cons h t => .cons (D.dp h) (dpAll D t)
theorem layAll (D : Dq K ra) : ∀ ds : List α, ds.all Sk.ok = true → PyData.canLayAll0 (ds.map D.enc) = true
  | [], _ => rfl
  | a :: l, h => by
    rw [List.all_cons, Bool.and_eq_true] at h
    rw [List.map_cons, PyData.canLayAll0, D.lay a h.1, layAll D l h.2] <;> rfl
theorem dptAll (D : Dq K ra) : ∀ ds : List α, PyData.depthAll (ds.map D.enc) ≤ D.dep
  | [] => Nat.zero_le _
  | a :: l => by
    rw [List.map_cons, PyData.depthAll]
    exact Nat.max_le.mpr ⟨D.dpt a, dptAll D l⟩
theorem injAll (D : Dq K ra) : ∀ a b : List α, PyData.eqvAll (a.map D.enc) (b.map D.enc) = decide (a = b)
  | [], [] => rfl
  | [], _ :: _ => rfl
  | _ :: _, [] => rfl
  | a :: l, b :: m => by
    rw [List.map_cons, List.map_cons, PyData.eqvAll, D.inj, injAll D l m]
    by_cases h1 : a = b <;> by_cases h2 : l = m <;> simp [h1, h2]
def dq_lst (D : Dq K ra) : Dq K (rLst ra) := ⟨fun l => .list (l.map D.enc), D.dep + 1, fun h => by
  obtain ⟨a, vs, rfl, h1, h2⟩ := h
  exact .lst (SqL.of h1) (dpAll D h2), fun l h => layAll D l h, fun l => by
  rw [PyData.depth]
  exact Nat.succ_le_succ (dptAll D l), fun a b => injAll D a b⟩
def dq_lsW (D : Dq K ra) : Dq K (rLsW K ra) := ⟨fun l => .list (l.map D.enc), D.dep + 1, fun h => by
  obtain ⟨a, vs, rfl, h1, h2⟩ := h
  exact .lst h1 (dpAll D h2), fun l h => layAll D l h, fun l => by
  rw [PyData.depth]
  exact Nat.succ_le_succ (dptAll D l), fun a b => injAll D a b⟩
def eqDG (a b : α) : Option Bool := if Sk.ok a = true ∧ Sk.ok b = true then some (decide (a = b)) else none
def neDG (a b : α) : Option Bool := if Sk.ok a = true ∧ Sk.ok b = true then some (!decide (a = b)) else none
def inDG (a : α) (l : List α) : Option Bool := if Sk.ok a = true ∧ Sk.ok l = true then some (decide (a ∈ l)) else none
theorem dp_ex {H H' : Hp} (e : Ex H H') (D : Dq K ra) {v : V} {a : α} (r : ra.r H v a) : Dp K H' v (D.enc a) := D.dp (ra.up e r)
theorem Dq.shaped (D : Dq K ra) (hd : D.dep ≤ 64) {a : α} (h : Sk.ok a = true) : SeqAt.shaped (D.enc a) = true := by
  unfold SeqAt.shaped
  rw [D.lay a h, decide_eq_true (Nat.le_trans (D.dpt a) hd)] <;> rfl
theorem vo_eqD (D : Dq K ra) (hd : D.dep ≤ 64) : VO (rEqD K) ra ra rBool eqDG := fun c F cs H v w a b d k r1 r2 q Q hQ => by
  unfold eqDG at q
  split at q
  · rename_i g
    cases q
    exact ⟨D.enc a, D.enc b, dp_ex k.ex D r1, dp_ex k.ex D r2, D.shaped hd g.1, D.shaped hd g.2, hQ _ F H (Evl.Ex.refl _) k (by rw [D.inj] <;> rfl)⟩
  · cases q
theorem vo_neD (D : Dq K ra) (hd : D.dep ≤ 64) : VO (rNeD K) ra ra rBool neDG := fun c F cs H v w a b d k r1 r2 q Q hQ => by
  unfold neDG at q
  split at q
  · rename_i g
    cases q
    exact ⟨D.enc a, D.enc b, dp_ex k.ex D r1, dp_ex k.ex D r2, D.shaped hd g.1, D.shaped hd g.2, hQ _ F H (Evl.Ex.refl _) k (by rw [D.inj] <;> rfl)⟩
  · cases q
theorem anyD (D : Dq K ra) (a : α) : ∀ l : List α, ((l.map D.enc).any fun z => PyData.eqv z (D.enc a)) = decide (a ∈ l)
  | [] => rfl
  | b :: l => by
    rw [List.map_cons, List.any_cons, anyD D a l, D.inj]
    by_cases h1 : b = a
    · subst h1; simp
    · have h3 : ¬ a = b := fun e => h1 e.symm
      by_cases h2 : a ∈ l <;> simp [h1, h2, h3]
theorem lsD (D : Dq K ra) (hd : D.dep ≤ 63) {l : List α} (h : Sk.ok l = true) : SeqAt.shaped (.list (l.map D.enc)) = true := (dq_lst D).shaped (show D.dep + 1 ≤ 64 by omega) h
/-- x in [..] -/
theorem em_inD {te tb : TE} {σ : L2.St} {F : Hp} {cs : Cs} {ma : Option α} {ml : Option (List α)} (D : Dq K ra) (hd : D.dep ≤ 63) (h : EM ra te σ F cs ma) (hl : EL K ra tb σ F cs ml) : EM rBool (tOp (rInD K) te tb) σ F cs (o2 inDG ma ml) := fun d q c F1 H e k Q hQ => by
  obtain ⟨a, b, q1, q2, q3⟩ := o2_some q
  refine h a q1 c F1 H e k _ fun v F2 H2 e2 k2 r2 => hl b q2 c F2 H2 (e.trans e2) k2 _ fun w F3 H3 e3 k3 r3 => ?_
  obtain ⟨p, vs, rfl, h1, h2⟩ := r3.see k3
  unfold inDG at q3
  split at q3
  · rename_i g
    cases q3
    exact ⟨D.enc a, b.map D.enc, dp_ex (e3.trans k3.ex) D r2, .lst h1 (dpAll D (Rs.up k3.ex h2)), D.shaped (by omega) g.1, lsD D hd g.2, hQ _ F3 H3 (e2.trans e3) k3 (by rw [anyD] <;> rfl)⟩
  · cases q3
end
section
variable {α β γ : Type} {ra : Rp α} {rb : Rp β} {σ : L2.St} {F H : Hp} {cs : Cs} {K : PySem.W.Frag} {te ta tb : TE}
/-! ### tuples joined, cut, repeated -/
/-! ### max of a list of whole numbers -/
/-! ### None or a value -/
/-! ### zip, enumerate -/
end
section
variable {α β γ δ : Type} {ra : Rp α} {rb : Rp β} {rc : Rp γ} {σ : L2.St} {F H : Hp} {cs : Cs} {K : PySem.W.Frag} {te ta tb : TE} {tz : TS} {D : Ends} {c : Act}
theorem un65 {k : Nat} {A : Around} (r : Room k A) : A.units + 65 < cLine := by have := r.un; omega
/-! a, b = e -/
/-! a pair made while the cell is followed -/
end

/-! lists joined, each of them only read -/
section
variable {α : Type} {ra : Rp α} {σ : L2.St} {F H : Hp} {cs : Cs} {K : PySem.W.Frag} {ta tb : TE}
end
end Mw

set_option maxHeartbeats 2000000
/-! sums, least, any, all; starred tuples; comprehensions of two fors; lists made longer in place -/
namespace Mw
open PySem L2 StX
open Evl (Ex)
section
variable {α β γ : Type} {ra : Rp α} {rb : Rp β} {rc : Rp γ} {σ : L2.St} {F H : Hp} {cs : Cs} {K : PySem.W.Frag} {te ta tb : TE} {D : Ends} {c : Act} {tz : TS}
/-! t[lo:hi] -/
/-! *xs in a display -/
def oApp {α : Type} (a l : Option (List α)) : Option (List α) := a.bind fun x => l.bind fun r => some (x ++ r)
/-! xs.extend(ys) -/
/-! ### [e for x in xs if .. for y in ys if ..] -/
end
/-! ### a walk whose expression changes the followed cell -/
def SI {α γ : Type} (ra : Rp α) (wi : TI) (σ : L2.St) (F : Hp) (cs : Cs) (m : Option (List α × γ)) (cs' : γ → Cs) : Prop := ∀ ds g, m = some (ds, g) → ∀ c F1 H, Ex F F1 → Cov c F1 cs H → ∀ R : It → Hp → Prop, (∀ J F2 H2, Ex F1 F2 → Cov c F2 (cs' g) H2 → Goes J F2 ra ds → R J H2) → wi σ H R
section
variable {α β γ ρ δ : Type} {ra : Rp α} {rb : Rp β} {σ : L2.St} {F H : Hp} {wi : TI} {g : TG} {tb : TS} {D : Ends} {c : Act} {cs : Cs} {m : Option (List α)} {ds : List α}
end
section
variable {α β γ : Type} {ra : Rp α} {rb : Rp β} {σ : L2.St} {F H : Hp} {cs : γ → Cs} {s : γ} {K : PySem.W.Frag} {te ta tb : TE} {wi : TI} {g : TG} {tt : TT} {vs : List Nat}
theorem si_rng1 {m : Option (Int × γ)} (h : SM rInt te σ F (cs s) m cs) : SI rInt (iRng1 (tCons te tNil)) σ F (cs s) (s1 (fun a s => sK s (rngG a)) m) cs := fun ds gg q c F1 H e k R hR => by
  unfold s1 at q
  obtain ⟨j, g1, q1, q⟩ := sC_some q
  obtain ⟨q2, eg⟩ := sP_some q
  subst eg
  unfold rngG at q2
  split at q2
  · rename_i g
    cases q2
    refine h j _ q1 c F1 H e k _ fun v F2 H2 e2 k2 r2 => ?_
    cases r2
    have z := hR (Itr 0 (j - 0).toNat) F2 H2 e2 k2 goes_rng
    rw [Int.sub_zero] at z
    exact ⟨j, rfl, g.1, g.2, z⟩
  · cases q2
end
section
variable {α β γ : Type} {ra : Rp α} {rb : Rp β} {σ : L2.St} {F H : Hp} {K : PySem.W.Frag} {te : TE} {wi : TI} {g : TG} {vs : List Nat}
theorem sf_lcS {cs : γ → Cs} {s : γ} {m : Option (List α × γ)} {f : α → γ → Option (β × γ)} {S : α → Hp → L2.St → Prop} (hw : SI ra wi σ F (cs s) m cs) (hg : GT g ra K (wipe σ vs) S) (hs : ∀ d F σ2, S d F σ2 → wipe σ2 vs = wipe σ vs)
    (he : ∀ d F1 σ2 s, Ex F F1 → S d F1 σ2 → SM rb te σ2 F1 (cs s) (f d s) cs) (hps : ∀ s s2, (cs s).map (·.1) = (cs s2).map (·.1)) : SF rb (tLc wi g tYes te vs) σ F (cs s) (sC m fun l s => sLc f l s) cs := fun r sE q c F1 H1 e1 k1 Q hQ => by
  obtain ⟨ds, sB, q1, q2⟩ := sC_some q
  unfold sLc at q2
  split at q2
  case isFalse => cases q2
  rename_i hlen
  refine hw ds sB q1 c F1 H1 e1 k1 _ fun J F2 H2 e2 k2 G => fun D hD => ?_
  have hD0 := k2.dom D hD
  refine ⟨fun i m H => m = ds.length - i ∧ i ≤ ds.length ∧ ∃ F' acc rest s', Ex F2 F' ∧ sMap f (ds.drop i) s' = some (rest, sE) ∧ r = acc ++ rest ∧ acc.length ≤ i ∧ Cov c F' (cs s' ++ [(D, cLst rb acc)]) H,
    ⟨ds.length, by simp, Nat.zero_le _, F2, [], r, sB, Evl.Ex.refl _, q2, rfl, Nat.le_refl _, k2.own hD ⟨[], rfl, .nil⟩⟩, ?_⟩
  rintro i m H ⟨rfl, hi, F', acc, rest, s', e3, hr, eq, la, k3⟩
  by_cases hlt : i < ds.length
  · have hd : ds[i]? = some ds[i] := by simp [hlt]
    obtain ⟨g1, g2⟩ := G.go i _ hd c F' _ H e3 k3
    refine .inr ⟨g1, fun H => ∃ F' acc rest s', Ex F2 F' ∧ sMap f (ds.drop (i + 1)) s' = some (rest, sE) ∧ r = acc ++ rest ∧ acc.length ≤ i + 1 ∧ Cov c F' (cs s' ++ [(D, cLst rb acc)]) H, fun H' ⟨F', acc, rest, s', z⟩ => ⟨ds.length - (i + 1), by omega, rfl, hlt, F', acc, rest, s', z⟩, fun x H' y => ?_⟩
    obtain ⟨F4, e4, c4, r4⟩ := g2 x H' y
    have k4 := c4 c _ k3
    rw [sMap_drop hd] at hr
    obtain ⟨z, s3, h2, hr⟩ := sC_some hr
    obtain ⟨rr, s4, h3, hr⟩ := sC_some hr
    cases hr
    refine hg c F4 _ H' x _ k4 r4 _ fun σ2 s2 => ⟨hs _ _ _ s2, ?_⟩
    have kk : Cov c F4 (cs s') H' := by
      have z := k4.keepN (cs s').length
      rw [List.take_left] at z
      exact z
    have e04 : Ex F F4 := ((e1.trans e2).trans e3).trans e4
    show te σ2 H' _
    refine he _ F4 σ2 s' e04 s2 z s3 h2 _ F4 H' (Evl.Ex.refl _) kk.base _ fun v F6 H6 e6 k6 r6 => ?_
    have k6' : Cov c F6 (cs s3 ++ [(D, cLst rb acc)]) H6 := k4.back k6 (Cov.old_ps k6)
    obtain ⟨f1, _, o, f3, ws, rfl, f4⟩ := k6'.cell (D, cLst rb acc) (List.mem_append_right _ List.mem_cons_self)
    refine ⟨ws, f3, sz_lt (by rw [f4.length]; omega), F6, acc ++ [z], rr, s3, (e3.trans e4).trans e6, h3, by rw [eq]; simp, by simp; omega, ?_⟩
    have k7 := k6'.set (cs s3).length (p := D) (x := cLst rb acc) (x' := cLst rb (acc ++ [z])) (o := .lst (ws ++ [v])) (by simp) ⟨ws ++ [v], rfl, f4.snoc r6⟩
    rw [List.set_append_right _ _ (Nat.le_refl _), Nat.sub_self] at k7
    exact k7
  · have e : i = ds.length := by omega
    subst e
    rw [List.drop_length] at hr
    cases hr
    rw [List.append_nil] at eq
    subst eq
    exact .inl ⟨G.stop c F' _ H e3 k3, hQ D F' H (e2.trans e3) k3 hD0⟩
end
section
variable {α β γ δ : Type} {ra : Rp α} {rb : Rp β} {σ : L2.St} {F H : Hp} {cs : δ → Cs} {s g : δ} {c : Act} {te ti : TE} {D : Ends} {tz : TS}
end
/-! range(a, b) of any whole numbers: the model keeps two kinds of iterator -/
section
open PySem.Spec PyProof.Rows
variable {X : Cx} {tg : Expr}
end
def rngW (lo hi : Int) : Option (List Int) := some (rngL lo hi)
section
variable {σ : L2.St} {F H : Hp} {te tb : TE}
end
/-! in place: x *= e, xs[i] -= e -/
section
open PySem.Spec PyProof.Rows
variable {X : Cx}
end
section
variable {σ : L2.St} {F H : Hp} {cs : Cs} {K : PySem.W.Frag} {te ti : TE} {D : Ends} {c : Act} {tz : TS}
/-! range(a, b, c) -/
/-! a op b op c -/
end
/-! the rules, the known part of the heap named -/
section
variable {X : Cx} (K : PySem.W.Frag) (h : X.K = K)
include h
theorem ix_listK : IxR X (rIxL K) := h ▸ ix_list
theorem sl_listK : SlR X (rSlL K) := h ▸ sl_list
theorem op_inDK (hu : X.A.units + 65 < cLine) : OpR X (compareOp .In) (rInD K) := h ▸ op_inD hu
theorem op_eqDK (hu : X.A.units + 64 < cLine) : OpR X (compareOp .Eq) (rEqD K) := h ▸ op_eqD hu
theorem op_neDK (hu : X.A.units + 64 < cLine) : OpR X (compareOp .NotEq) (rNeD K) := h ▸ op_neD hu
theorem call_isiK2 : CallR X (.builtin "isinstance") (rIsi K) := h ▸ call_isi
theorem call_len_seqK : CallR X (.builtin "len") (fun xs H Q => ∃ p ys, xs = [.ref p] ∧ (SqL K H p ys ∨ SqT K H p ys) ∧ Q (.int ys.length) H) := h ▸ call_len_seq
theorem call_tuple_ofK : CallR X (.type "tuple") (fun xs H Q => ∃ p ys, xs = [.ref p] ∧ ((SqL K H p ys ∧ ∀ l, H l = none → Q (.ref l) (upd H l (.tup ys))) ∨ (SqT K H p ys ∧ Q (.ref p) H))) := h ▸ call_tuple_of
theorem pi_listK {tg l : Expr} {tl : TE} (hl : PE X l tl) : PI X tg l (iList K tl) := h ▸ pi_list hl
end
section
variable {σ : L2.St} {F : Hp} {cs : Cs}
theorem em_Pcall1t {α1 ρ : Type} {r1 : Rp α1} {rr : Rp ρ} {E : XK} {t1 : TE} {m : α1 → Option (ρ)} {a1 : α1} (h1 : EM r1 t1 σ F cs (some a1)) : EM rr (tCall (Psp1 r1 rr m) [] E (tCons t1 tNil)) σ F cs (m a1) := em_Pcall1 h1
theorem em_Pcall2t {α1 α2 ρ : Type} {r1 : Rp α1} {r2 : Rp α2} {rr : Rp ρ} {E : XK} {t1 t2 : TE} {m : α1 → α2 → Option (ρ)} {a1 : α1} {a2 : α2} (h1 : EM r1 t1 σ F cs (some a1)) (h2 : EM r2 t2 σ F cs (some a2)) : EM rr (tCall (Psp2 r1 r2 rr m) [] E (tCons t1 (tCons t2 tNil))) σ F cs (m a1 a2) := em_Pcall2 h1 h2
end
end Mw

set_option maxHeartbeats 2000000
/-! objects of a class of the program: two fields, set by __init__ and then only read -/
namespace Mw
open PySem L2
open Evl (Ex)
section
variable {α β : Type}
end
section
variable {α β α1 α2 ρ : Type} {ra : Rp α} {rb : Rp β} {r1 : Rp α1} {r2 : Rp α2} {rr : Rp ρ} {C : Addr} {n1 n2 : Str} {σ : L2.St} {F H : Hp} {cs : Cs} {K : PySem.W.Frag} {te t1 t2 : TE} {D : Ends} {c : Act} {tz : TS} {E : XK}
end

structure CalM (P : Program) (w : World) (K : PySem.W.Frag) (mg : Str → Option Value) (base : Heap) (k : Nat) (C : Addr) (m : Str) (ps : List Str) (sp : Sp) (X : FuncData → Prop) : Prop where
  ex : ∃ f fd, FnOk P w K mg base CX0 k f fd ps sp ∧ Meth K C m f ∧ Binds K fd ps [] ∧ X fd
structure CalI (P : Program) (w : World) (K : PySem.W.Frag) (mg : Str → Option Value) (base : Heap) (k : Nat) (C : Addr) (ps : List Str) (sp : Sp) (X : FuncData → Prop) : Prop where
  ex : ∃ f fd, FnOk P w K mg base CX0 k f fd ps sp ∧ Mk K C f ∧ Binds K fd ps [] ∧ X fd
section
variable {α β γ δ : Type} {ra : Rp α} {rb : Rp β} {rc : Rp γ} {σ : L2.St} {F H : Hp} {cs : Cs} {K : PySem.W.Frag} {te : TE} {tz : TS} {D : Ends} {c : Act}
end
end Mw

set_option maxHeartbeats 2000000
/-! is of bools; methods of any object (by position, by keywords), properties; a hook of my own for the head's facts -/
namespace Mw
open PySem L2
open Evl (Ex)
section
variable {α β ω α1 α2 ρ : Type} {ra : Rp α} {rb : Rp β} {ro : Rp ω} {r1 : Rp α1} {r2 : Rp α2} {rr : Rp ρ} {C : Addr} {n1 n2 m : Str} {σ : L2.St} {F : Hp} {cs : Cs} {K : PySem.W.Frag} {te t1 t2 : TE} {E : XK} {m0 : Option ω} {m1 : Option α1} {m2 : Option α2}
end
section
variable {α β γ δ : Type} {ra : Rp α} {rb : Rp β} {rc : Rp γ} {σ : L2.St} {F H : Hp} {cs : Cs} {K : PySem.W.Frag} {te ta tb tc : TE}
/-! enumerate -/
end
section
variable {α : Type} {ra : Rp α} {σ : L2.St} {F H : Hp} {cs : Cs} {K : PySem.W.Frag} {c : Act} {D : Ends} {tz : TS}
end
structure CalP (P : Program) (w : World) (K : PySem.W.Frag) (mg : Str → Option Value) (base : Heap) (k : Nat) (C : Addr) (m : Str) (ps : List Str) (sp : Sp) (X : FuncData → Prop) : Prop where
  ex : ∃ f fd p, FnOk P w K mg base CX0 k f fd ps sp ∧ PropOf K C m p f ∧ Binds K fd ps [] ∧ X fd
end Mw
/-! ### the head's facts, by a hook of my own -/
namespace Hm
open PySem PySem.Spec PyProof.Rows L2 He
abbrev Fc : Type := PySem.W.Frag → Bool
abbrev fa (f : Fa) : Fc := fun K => f.ok K
/-- one def: where it stands, its name, qualified name, parameters, body, scope -/
structure DefM where
  at_ : PySem.W.Frag → Addr
  name : Str
  qual : Str
  params : Arguments
  body : List Stmt
  scope : Scope
def fnM (K : PySem.W.Frag) (a : Addr) : FnW := match K.lookup a with
  | some ⟨_, _, .func fd, _⟩ => some (fd.name, fd.qualname, fd.params, fd.body, fd.scope, fd.globals, fd.closure, fd.builtins)
  | _ => none
def DefM.val (d : DefM) : FnW := some (d.name, d.qual, d.params, .stmts d.body, d.scope, mainGlobals, [], builtinsNs)
def DefM.ok (K : PySem.W.Frag) (d : DefM) : Bool := PySem.W.keepIn K (.ref (d.at_ K)) && (match K.lookup (d.at_ K) with
  | some ⟨_, _, .func fd, _⟩ => PySem.W.codeIn K fd.code d.qual && (dflB K fd.defaults [] && kwdB K fd.kwdefaults [])
  | _ => false)
theorem DefM.funD {K : PySem.W.Frag} {d : DefM} (e : fnM K (d.at_ K) = d.val) (c : d.ok K = true) : ∃ fd, FunD K d.name d.qual d.params d.body d.scope [] [] (d.at_ K) fd := by
  obtain ⟨kp, c2⟩ := ba c
  unfold fnM at e
  cases q : K.lookup (d.at_ K) with
  | none =>
    rw [q] at c2
    cases c2
  | some o =>
    obtain ⟨oc, od, dt, osl⟩ := o
    rw [q] at c2 e
    cases dt with
    | func fd =>
      obtain ⟨n1, n2, n3, n4, n5, n6, n7, n8, n9, n10, n11, n12, n13, n14, n15⟩ := fd
      have e2 : (some (n1, n2, n3, n4, n5, n6, n7, n15) : FnW) = some (d.name, d.qual, d.params, .stmts d.body, d.scope, mainGlobals, [], builtinsNs) := e
      simp only [Option.some.injEq, Prod.mk.injEq] at e2
      obtain ⟨h1, h2, h3, h4, h5, h6, h7, h8⟩ := e2
      subst h1 h2 h3 h4 h5 h6 h7 h8
      have c3 : (PySem.W.codeIn K n13 d.qual && (dflB K n8 [] && kwdB K n9 [])) = true := c2
      obtain ⟨k1, k2⟩ := ba c3
      obtain ⟨k3, k4⟩ := ba k2
      exact ⟨_, ⟨oc, od, n8, n9, n10, n11, n12, n13, n14, osl, rfl, q, k1, dflB_ok k3, kwdB_ok k4⟩, kp⟩
    | _ => cases c2
def obsM (fa : List Fc) (fn : List DefM) (K : PySem.W.Frag) : AlD := ((fa.all fun f => f K) && fn.all fun d => d.ok K, fn.map fun d => fnM K (d.at_ K))
def valM (fn : List DefM) : AlD := (true, fn.map DefM.val)
def SaysM (fa : List Fc) (fn : List DefM) (K : PySem.W.Frag) : Prop := obsM fa fn K = valM fn
section
variable {fa : List Fc} {fn : List DefM} {K : PySem.W.Frag}
theorem SaysM.fact (c : SaysM fa fn K) (i : Nat) {f : Fc} (h : fa[i]? = some f := by rfl) : f K = true := by
  have c1 := (ba (show ((fa.all fun f => f K) && fn.all fun d => d.ok K) = true from congrArg (fun z : AlD => z.1) c)).1
  exact List.all_eq_true.mp c1 f (List.mem_of_getElem? h)
theorem SaysM.def_ (c : SaysM fa fn K) (i : Nat) {d : DefM} (h : fn[i]? = some d := by rfl) : ∃ fd, FunD K d.name d.qual d.params d.body d.scope [] [] (d.at_ K) fd := by
  have c2 := (ba (show ((fa.all fun f => f K) && fn.all fun d => d.ok K) = true from congrArg (fun z : AlD => z.1) c)).2
  have e : fn.map (fun d => fnM K (d.at_ K)) = fn.map DefM.val := congrArg (fun z : AlD => z.2) c
  have e2 : (fn.map fun d => fnM K (d.at_ K))[i]? = (fn.map DefM.val)[i]? := by rw [e]
  rw [List.getElem?_map, List.getElem?_map, h] at e2
  exact DefM.funD (Option.some.inj e2) (List.all_eq_true.mp c2 d (List.mem_of_getElem? h))
end
end Hm

set_option maxHeartbeats 2000000
/-! sorted(xs), xs a list of tuples of ints (none of them empty) of any number; sorted of ints -/
namespace Mw
open PySem PySem.Spec PyProof.Rows L2
open Evl (Ex)
/-! at the machine -/
def IsTupI (h : Heap) (v : Value) (ns : List Int) : Prop := ∃ (a : Addr) (o : Obj) (us : Array Value) (n : Nat), v = .ref a ∧ h.get? a = some o ∧ o.cls = .type "tuple" ∧ o.data = .seq us n ∧ Vals (ns.map V.int) us.toList ∧ ns ≠ []
theorem IsTupI.keeps {h h' : Heap} {v : Value} {ns : List Int} (p : IsTupI h v ns) (k : ∀ b o, h.get? b = some o → o.cls = .type "tuple" → h'.get? b = some o) : IsTupI h' v ns := by
  obtain ⟨a, o, us, n, e, ho, hc, hd, r, z⟩ := p
  exact ⟨a, o, us, n, e, k _ _ ho hc, hc, hd, r, z⟩
section
variable {prog : Program} {w : World} {A : Around} {E : Value → Shared → Prop} {s : Shared}
end
end Mw

set_option maxHeartbeats 2000000
/-! objects of a class with one, three, four fields (printed by objs.py) -/
namespace Mw
open PySem L2
open Evl (Ex)
section
variable {α0 : Type}
end
section
variable {α0 β1 β2 β3 ρ ω : Type} {r0 : Rp α0} {s1 : Rp β1} {s2 : Rp β2} {s3 : Rp β3} {rr : Rp ρ} {C : Addr} {n0 : Str} {σ : L2.St} {F H : Hp} {cs : Cs} {K : PySem.W.Frag} {te t1 t2 t3 : TE} {D : Ends} {c : Act} {tz : TS} {E : XK}
end
section
variable {α0 α1 α2 : Type}
end
section
variable {α0 α1 α2 β1 β2 β3 ρ ω : Type} {r0 : Rp α0} {r1 : Rp α1} {r2 : Rp α2} {s1 : Rp β1} {s2 : Rp β2} {s3 : Rp β3} {rr : Rp ρ} {C : Addr} {n0 n1 n2 : Str} {σ : L2.St} {F H : Hp} {cs : Cs} {K : PySem.W.Frag} {te t1 t2 t3 : TE} {D : Ends} {c : Act} {tz : TS} {E : XK}
end
section
variable {α0 α1 α2 α3 : Type}
end
section
variable {α0 α1 α2 α3 β1 β2 β3 ρ ω : Type} {r0 : Rp α0} {r1 : Rp α1} {r2 : Rp α2} {r3 : Rp α3} {s1 : Rp β1} {s2 : Rp β2} {s3 : Rp β3} {rr : Rp ρ} {C : Addr} {n0 n1 n2 n3 : Str} {σ : L2.St} {F H : Hp} {cs : Cs} {K : PySem.W.Frag} {te t1 t2 t3 : TE} {D : Ends} {c : Act} {tz : TS} {E : XK}
end
end Mw

set_option maxHeartbeats 2000000
/-! dicts whose keys are tuples of ints; sorted lists -/
namespace Mw
open PySem L2
open Evl (Ex)
section
variable {α β : Type}
def dGet (ds : List (List Int × β)) (k : List Int) : Option β := (ds.find? fun d => decide (d.1 = k)).map (·.2)
def dPut (ds : List (List Int × β)) (k : List Int) (x : β) : List (List Int × β) := if (ds.any fun d => decide (d.1 = k)) = true then ds.map fun d => if d.1 = k then (d.1, x) else d else ds ++ [(k, x)]
abbrev kI (k : List Int) : List L2.Key := k.map Sum.inl
theorem kI_inj : ∀ {a b : List Int}, kI a = kI b → a = b
  | [], [], _ => rfl
  | [], _ :: _, h => by cases h
  | _ :: _, [], h => by cases h
  | x :: a, y :: b, h => by
    have h1 : (Sum.inl x : L2.Key) :: kI a = Sum.inl y :: kI b := h
    injection h1 with h2 h3
    injection h2 with h2
    rw [h2, kI_inj h3]
abbrev Rkv (rb : Rp β) (F : Hp) : List (List L2.Key × V) → List (List Int × β) → Prop := Paired fun kv d => kv.1 = kI d.1 ∧ rb.r F kv.2 d.2
variable {rb : Rp β} {F F' : Hp}
theorem Rkv.up {kvs : List (List L2.Key × V)} {ds : List (List Int × β)} (e : Ex F F') (h : Rkv rb F kvs ds) : Rkv rb F' kvs ds := L2.Paired.mapP h fun _ _ q => ⟨q.1, rb.up e q.2⟩
theorem Rkv.get {k : List Int} : ∀ {kvs : List (List L2.Key × V)} {ds : List (List Int × β)}, Rkv rb F kvs ds → match dGet ds k with
    | none => valV kvs (kI k) = none
    | some x => ∃ v, valV kvs (kI k) = some v ∧ rb.r F v x
  | [], [], .nil => rfl
  | kv :: kvs, d :: ds, .cons r t => by
    have ih := Rkv.get (k := k) t
    unfold dGet valV at ih ⊢
    by_cases q : d.1 = k
    · have q2 : kv.1 = kI k := by rw [r.1, q]
      rw [List.find?_cons_of_pos (by simpa using q), List.find?_cons_of_pos (by simpa using q2)]
      exact ⟨kv.2, rfl, r.2⟩
    · have q2 : ¬ kv.1 = kI k := fun z => q (kI_inj (by rw [← r.1, z]))
      rw [List.find?_cons_of_neg (by simpa using q), List.find?_cons_of_neg (by simpa using q2)]
      exact ih
theorem Rkv.any {k : List Int} : ∀ {kvs : List (List L2.Key × V)} {ds : List (List Int × β)}, Rkv rb F kvs ds → (kvs.any fun kv => decide (kv.1 = kI k)) = ds.any fun d => decide (d.1 = k)
  | [], [], .nil => rfl
  | kv :: kvs, d :: ds, .cons r t => by
    rw [List.any_cons, List.any_cons, Rkv.any t]
    congr 1
    refine decide_eq_decide.mpr ⟨fun z => kI_inj (by rw [← r.1, z]), fun z => by rw [r.1, z]⟩
theorem Rkv.put {k : List Int} {v : V} {x : β} (hv : rb.r F v x) {kvs : List (List L2.Key × V)} {ds : List (List Int × β)} (h : Rkv rb F kvs ds) : Rkv rb F (putK kvs (kI k) v) (dPut ds k x) := by
  unfold putK dPut
  rw [h.any]
  split
  · have key : ∀ {kvs : List (List L2.Key × V)} {ds : List (List Int × β)}, Rkv rb F kvs ds → Rkv rb F (kvs.map fun kv => if kv.1 = kI k then (kv.1, v) else kv) (ds.map fun d => if d.1 = k then (d.1, x) else d) := by
      intro kvs ds h
      induction h with
      | nil => exact .nil
      | @cons kv d kvs ds r t ih =>
        refine .cons ?_ ih
        by_cases q : d.1 = k
        · have q2 : kv.1 = kI k := by rw [r.1, q]
          simp only [if_pos q, if_pos q2]
          exact ⟨r.1, hv⟩
        · have q2 : ¬ kv.1 = kI k := fun z => q (kI_inj (by rw [← r.1, z]))
          simp only [if_neg q, if_neg q2]
          exact r
    exact key h
  · have key : ∀ {kvs : List (List L2.Key × V)} {ds : List (List Int × β)}, Rkv rb F kvs ds → Rkv rb F (kvs ++ [(kI k, v)]) (ds ++ [(k, x)]) := by
      intro kvs ds h
      induction h with
      | nil => exact .cons ⟨rfl, hv⟩ .nil
      | cons r t ih => exact .cons r ih
    exact key h
def rDic (rb : Rp β) : Rp (List (List Int × β)) := ⟨fun H v ds => ∃ a kvs, v = .ref a ∧ H a = some (.dT kvs) ∧ Rkv rb H kvs ds, fun e ⟨a, kvs, h1, h2, h3⟩ => ⟨a, kvs, h1, e _ _ h2, Rkv.up e h3⟩⟩
def cDic (rb : Rp β) (ds : List (List Int × β)) : Cp := ⟨fun F o => ∃ kvs, o = .dT kvs ∧ Rkv rb F kvs ds, fun e ⟨kvs, h1, h2⟩ => ⟨kvs, h1, Rkv.up e h2⟩, fun ⟨_, h, _⟩ => by subst h; trivial⟩
/-- a dict, frozen or a cell -/
def DR (rb : Rp β) (cs : Cs) (F : Hp) (v : V) (ds : List (List Int × β)) : Prop := (rDic rb).r F v ds ∨ ∃ p, v = .ref p ∧ (p, cDic rb ds) ∈ cs
theorem DR.up {cs : Cs} {v : V} {ds : List (List Int × β)} (h : DR rb cs F v ds) (e : Ex F F') : DR rb cs F' v ds := h.imp ((rDic rb).up e) fun q => q
theorem DR.see {c : Act} {cs : Cs} {H : Hp} {v : V} {ds : List (List Int × β)} (h : DR rb cs F v ds) (k : Cov c F cs H) : ∃ a kvs, v = .ref a ∧ H a = some (.dT kvs) ∧ Rkv rb F kvs ds := by
  rcases h with ⟨a, kvs, h1, h2, h3⟩ | ⟨p, h1, h2⟩
  · exact ⟨a, kvs, h1, k.ex _ _ h2, h3⟩
  · obtain ⟨_, _, o, h3, kvs, rfl, h4⟩ := k.cell _ h2
    exact ⟨p, kvs, h1, h3, h4⟩
def ED (rb : Rp β) (te : TE) (σ : L2.St) (F : Hp) (cs : Cs) (m : Option (List (List Int × β))) : Prop := ∀ d, m = some d → ∀ c F1 H, Ex F F1 → Cov c F1 cs H → ∀ Q : VK, (∀ v F2 H2, Ex F1 F2 → Cov c F2 cs H2 → DR rb cs F2 v d → Q v H2) → te σ H Q
end
section
variable {β : Type} {rb : Rp β} {σ : L2.St} {F H : Hp} {cs : Cs} {K : PySem.W.Frag} {td ty tv te : TE} {md : Option (List (List Int × β))} {mk : Option (List Int)} {c : Act} {D : Ends} {tz : TS}
theorem EM.ed (h : EM (rDic rb) td σ F cs md) : ED rb td σ F cs md := fun d q c F1 H e k Q hQ => h d q c F1 H e k Q fun v F2 H2 e2 k2 r2 => hQ v F2 H2 e2 k2 (.inl r2)
theorem un1 {k : Nat} {A : Around} (r : Room k A) : A.units + 1 < cLine := by have := r.un; omega
/-! sorted -/
end
end Mw

set_option maxHeartbeats 2000000
/-! the operators of an own class: x in obj, len(obj) -/
namespace Mw
open PySem L2 PySem.Spec PyProof.Rows PySem.W
section
variable {X : Cx} {CX : CXT} {k : Nat} {C g a dx : Addr} {fs : List (Str × V)} {fd : FuncData} {ps : List Str} {sp : Sp} {dvs : List V} {ds : List Value} {E : XK}
/-- the class (or one above it) has the name as a def at g -/
structure DefOf (K : PySem.W.Frag) (C : Addr) (f : Str) (g : Addr) : Prop where
  at_ : PySem.W.findIn K (.ref C) f = some (some (.ref g))
  fn : PySem.W.isFn K (.ref g) = true
end
section
variable {ω α : Type} {ro : Rp ω} {ra : Rp α} {C : Addr} {E : XK}
end
end Mw
namespace Mw
open PySem PySem.Spec PyProof.Rows L2
/-- an own operator's def, ready to be called -/
structure CalO (P : Program) (w : World) (K : PySem.W.Frag) (mg : Str → Option Value) (base : Heap) (k : Nat) (C : Addr) (m : Str) (ps : List Str) (sp : Sp) (X : FuncData → Prop) : Prop where
  ex : ∃ f fd, FnOk P w K mg base CX0 k f fd ps sp ∧ DefOf K C m f ∧ Binds K fd ps [] ∧ X fd
end Mw
namespace Hm
open PySem PySem.Spec PyProof.Rows L2 He Mw
end Hm

set_option maxHeartbeats 2000000
/-! Exceptions: one that was caught stays tracked; raise, try. -/
namespace L2
open PySem PySem.Spec PyProof.Rows
/-- an exception that was caught: its class, its dict -/
def exT (a : Addr) (cls : Value) (d : Option Addr) : HO := .ext fun h => ∃ (oe : Obj) (vs : Array Value), h.get? a = some oe ∧ Zc cls d oe ∧ oe.data = .fields vs
theorem exT_ok {P : Program} {w : World} {H : Hp} {h : Heap} {a : Addr} {cls : Value} {d : Option Addr} {oe : Obj} {vs : Array Value} (e : h.get? a = some oe) (z : Zc cls d oe) (dd : oe.data = .fields vs) : ObjOk P w H h a (exT a cls d) :=
  ⟨⟨oe, vs, e, z, dd⟩, ⟨oe, e⟩, fun _ _ ⟨o, v, q, r⟩ k => ⟨o, v, k o q, r⟩⟩
theorem exT_at {P : Program} {w : World} {H : Hp} {h : Heap} {a : Addr} {cls : Value} {d : Option Addr} (hok : HOk P w H h) (e : H a = some (exT a cls d)) : ∃ (oe : Obj) (vs : Array Value), h.get? a = some oe ∧ Zc cls d oe ∧ oe.data = .fields vs := by
  have x : ObjOk P w H h a (.ext fun h => ∃ (oe : Obj) (vs : Array Value), h.get? a = some oe ∧ Zc cls d oe ∧ oe.data = .fields vs) := hok a _ e
  exact x.1
section
variable {X : Cx} {pins : List (Addr × Obj)} {σ : St} {H : Hp} {s : Shared}
/-- a record that stands in the heap since the entry is tracked from here on -/
theorem Inv.track {a : Addr} {oe : Obj} {vs : Array Value} {cls : Value} {d : Option Addr} (I : Inv X pins σ H s) (h0 : X.s_0.heap.get? a = none) (hp : ∀ p ∈ X.pn ++ pins, p.1 ≠ a) (ha : s.heap.get? a = some oe) (z : Zc cls d oe) (hd : oe.data = .fields vs)
    (na : H a = none) (nL : a ≠ X.env.locals) : Inv X pins σ (upd H a (exT a cls d)) s := by
  have ne0 : ∀ b o, X.s_0.heap.get? b = some o → b ≠ a := fun b o e q => by rw [q, h0] at e; cases e
  have neH : ∀ {b u}, H b = some u → b ≠ a := fun {b u} e => ne_of_none e na
  refine ⟨I.ok, I.os, I.bare, ⟨fun b o e n hb hx => I.base.keep b o e n hb hx, fun b o e n hb hx => I.base.slot b o e n hb hx, fun b o e n hx => ?_, fun b o e hx => I.base.there b o e hx, fun b xs e => ?_, fun b o u e => ?_, fun b ps e => ?_⟩, I.loc, I.cell, ?_, fun x c e => ?_, fun p q => ?_, fun b u e => ?_, I.len⟩
  · rw [upd_ne (ne0 b o e)]; exact I.base.free b o e n hx
  · have q := I.base.tups b xs e
    rw [upd_ne (neH q)]; exact q
  · have q := I.base.frzs b o u e
    rw [upd_ne (neH q)]; exact q
  · obtain ⟨m, q⟩ := I.base.tbls b ps e
    exact ⟨m, by rw [upd_ne (neH q)]; exact q⟩
  · rw [upd_ne (Ne.symm nL)]; exact I.free
  · have nc : c ≠ a := fun q => by
      obtain ⟨v, o, ho, hc⟩ := I.cell x c e
      rw [q, ha] at ho
      cases ho
      rw [hd] at hc
      cases hc
    rw [upd_ne nc]; exact I.freeC x c e
  · obtain ⟨e, n, ne, nf, dd⟩ := I.pin p q
    exact ⟨e, by rw [upd_ne (hp p q)]; exact n, ne, nf, dd⟩
  · by_cases hb : b = a
    · subst hb
      rw [upd_same] at e
      cases e
      exact exT_ok ha z hd
    · rw [upd_ne hb] at e
      exact (I.hok b u e).stay (fun _ _ _ q => q) (fun c q => by rw [upd_ne (neH q)]; exact q) fun c xs q => by rw [upd_ne (neH q)]; exact q
/-- the context of an except suite whose exception is tracked -/
abbrev Cx.suT (X : Cx) (a : Addr) (pn : List (Addr × Obj)) : Cx := { X with A := X.A.mark (some (.ref a)), calm := false, pn := pn, xe := fun _ _ => False }
theorem Inv.suT (I : Inv X pins σ H s) (a : Addr) : Inv (X.suT a (X.pn ++ pins)) [] σ H s :=
  ⟨I.ok.suite _ _, I.os, I.bare, I.base, I.loc, I.cell, I.free, I.freeC, fun p hp => I.pin p (by rw [List.append_nil] at hp; exact hp), I.hok, I.len⟩
theorem Inv.unsuT {a : Addr} {pn' : List (Addr × Obj)} (I : Inv (X.suT a (X.pn ++ pins)) pn' σ H s) (ok : X.Ok) : Inv X pins σ H s :=
  ⟨ok, I.os, I.bare, I.base, I.loc, I.cell, I.free, I.freeC, fun p hp => I.pin p (List.mem_append_left _ hp), I.hok, I.len⟩
end
/-- what the clause 'except x as n' wishes of an exception of the body (n's slot is i), the exception tracked -/
def wAsT (K : PySem.W.Frag) (c : Value) (i : Nat) (ts : TS) (Wout : WX) (D : Ends) : WX := fun cls d σ H =>
  ∃ b, PySem.W.exmOne K cls c = some b ∧ (b = true → ∀ a, H a = none → ts { nx := fun σ' H' => D.nx (σ'.set i none) H', rt := D.rt, bk := fun σ' H' => D.bk (σ'.set i none) H', ct := fun σ' H' => D.ct (σ'.set i none) H' } (σ.set i (some (.ref a))) (upd H a (exT a cls d))) ∧
    (b = false → Wout cls d σ H)
section
variable {X : Cx} {x n : Str} {c : Value} {i : Nat} {body suite : List Stmt} {b₀ : Stmt} {np pos pos' : Pos} {tb : WX → TS} {ts : TS} {Wout : WX}
theorem ps_try_T (hs : X.stack = X.env :: X.outer) (hf : X.env.frame = some X.env.locals) (hex : X.ex = []) (hN : X.N.Nodup) (hi : X.N[i]? = some n) (hln : X.env.kindOf n = some .local) (hc : Names X x c) (tk : Takes X Wout)
    (hb : ∀ (W : WX) (pn : List (Addr × Obj)) (xe : Value → Shared → Prop), Takes (X.tr pn xe) W → PassesOwn (model X.prog X.w) X.A X.env xe → PSs (X.tr pn xe) body (tb W))
    (hsu : ∀ (a : Addr) (pn : List (Addr × Obj)), PSs (X.suT a pn) (b₀ :: suite) ts) :
    PS X (.Try body [.ExceptHandler (some (.Name x np)) (some n) (b₀ :: suite) pos'] [] [] pos) (fun D σ H => tb (wAsT X.K c i ts Wout D) D σ H) := by
  refine ⟨fun pins s σ H D I h => ?_⟩
  have ok := I.ok
  have hfr : X.A.frames = some (X.env :: X.outer) := by rw [ok.frames, hs]
  have hloc : Loc X.env.scope n := .inl hln
  refine wpAny_Try_except ?_
  refine wpAny_mono ((hb (wAsT X.K c i ts Wout D) (X.pn ++ pins) (fun e s₁ => wpAny (model X.prog X.w) X.A (noteFrame e X.env) (fun _ s₂ => wpAny (model X.prog X.w) X.A (setFlight e none) (fun _ s₃ =>
    wpAny (model X.prog X.w) X.A (handleBy e X.env [.ExceptHandler (some (.Name x np)) (some n) (b₀ :: suite) pos']) (SP X pins D) X.xe s₃) X.xe s₂) X.xe s₁) (fun u s' xx => ?_) PassesOwn.looking).run [] s σ H D (I.toTry _) h) (fun f s1 hsp => ?_) (fun e s1 he => he)
  · -- the catch
    obtain ⟨a, B, sI, pins', σ', H', cls, d, rfl, J', nb, up, sky, na, os, ag, b, hb1, hyes, hno⟩ := xx
    have J : Inv X pins σ' H' sI := J'.ofTry ok
    have sky' : Sky B (X.env :: X.outer) a (Zc cls d) X.env.locals s'.heap := by rw [← hs]; exact sky
    show wpAny (model X.prog X.w) X.A (noteFrame (.ref a) X.env) _ _ _
    refine Sky.land Zc.steady hfr hf sky' fun h3 fl3 up3 => ?_
    have J3 : Inv X pins σ' H' { s' with heap := h3 } := J.landed nb fl3.1 (up.trans up3) os ag
    obtain ⟨oe3, vs3, he3, hz3, hd3⟩ := fl3.there
    have notFr : ∀ {h : Heap} {o : Obj} {vs : Array Value}, h.FunFrames B (X.env :: X.outer) → h.get? a = some o → o.data = .fields vs → a ∉ frs (X.env :: X.outer) := fun {h o vs} ff e dd hm => by
      obtain ⟨_, o', e', hnf⟩ := ff.mem hm
      rw [e] at e'; cases e'
      exact hnf _ dd
    have nfr := notFr fl3.2.2.1 he3 hd3
    have nL : a ≠ X.env.locals := fun z => nfr (List.mem_filterMap.mpr ⟨X.env, List.mem_cons_self, by rw [hf, z]⟩)
    have nF : a ∉ X.fs := fun hm => by
      obtain ⟨e, he, q⟩ := List.mem_filterMap.mp hm
      exact nfr (List.mem_filterMap.mpr ⟨e, List.mem_cons_of_mem _ he, q⟩)
    have aI : sI.heap.get? a = none := by
      cases q : sI.heap.get? a with
      | none => rfl
      | some o =>
        have z := nb a o q (by rw [hs]; exact nfr)
        rw [fl3.2.1] at z
        cases z
    have a0 : X.s_0.heap.get? a = none := by
      cases q : X.s_0.heap.get? a with
      | none => rfl
      | some o =>
        obtain ⟨o', z⟩ := J.base.there a o q (by rw [hex]; exact List.not_mem_nil)
        rw [aI] at z
        cases z
    have ap : ∀ p ∈ X.pn ++ pins, p.1 ≠ a := fun p hp q => by
      obtain ⟨z, _⟩ := J.pin p hp
      rw [q, aI] at z
      cases z
    have S3 := J3.suite he3 hd3 na nL nF
    refine wpAny_handleBy_cons (codeAny_handlers_test ?_) (by intro q; cases q)
    have LT : PySem.W.Looks (model X.prog X.w) h3 (typeOf (.ref a)) cls := fun A Q E s k q => wpAny_typeOf_ref (k _ _ he3) (by rw [hz3.1]; exact q)
    have LM := PySem.W.exm_one (M := model X.prog X.w) (J3.kIn) LT hb1
    have test : ∀ {Q : Value → Shared → Prop} {E : Value → Shared → Prop}, Q c { s' with heap := h3 } → wpAny (model X.prog X.w) (X.A.mark (some (.ref a))) (eval (.Name x np) X.env) Q E { s' with heap := h3 } := fun {Q E} q => by
      obtain ⟨hg, hdbg, hm | ⟨hm, hv, hnn⟩⟩ := hc
      · exact ld_glob (X := X.suite a ((a, oe3) :: (X.pn ++ pins))) S3 hg hm q hdbg
      · exact ld_blt (X := X.suite a ((a, oe3) :: (X.pn ++ pins))) S3 hg hm hv q hnn hdbg
    refine test (LM.here ?_)
    cases b with
    | true =>
      refine codeAny_handlers_suite_as ?_
      refine HandSPX.lands_againZ fl3 fun h4 fl4 up4 => ?_
      have J4 : Inv X pins σ' H' { s' with heap := h4 } := J.landed nb fl4.1 ((up.trans up3).trans up4) os ag
      obtain ⟨oe4, vs4, he4, hz4, hd4⟩ := fl4.there
      have S4 := (J4.track a0 ap he4 hz4 hd4 na nL).suT a
      refine store_ok (X := X.suT a (X.pn ++ pins)) (v := .ref a) S4 hN hi hloc rfl (fun s5 S5 => ?_) (.inr hln)
      refine wpAny_mono ((hsu a (X.pn ++ pins)).run [] s5 _ _ _ S5 (hyes rfl a na)) (fun f s6 hsp => ?_) (fun _ _ z => False.elim z)
      have end_ : ∀ {σ6 : St} {H6 : Hp} {Q : Shared → Prop}, Inv (X.suT a (X.pn ++ pins)) [] σ6 H6 s6 → (∀ s7, Inv X pins (σ6.set i none) H6 s7 → Q s7) →
          wpAny (model X.prog X.w) X.A (do bindName X.env n .none; unbindBehindTheSuite X.env n pos') (fun _ s7 => Q s7) X.xe s6 := fun {σ6 H6 Q} S6 hq => gone_ok (S6.unsuT ok) hN hi hln hq
      cases f with
      | next =>
        obtain ⟨σ6, H6, S6, q6⟩ := hsp
        exact end_ S6 fun s7 J7 => ⟨_, _, J7, q6⟩
      | brk =>
        obtain ⟨σ6, H6, S6, q6⟩ := hsp
        exact end_ S6 fun s7 J7 => ⟨_, _, J7, q6⟩
      | cont =>
        obtain ⟨σ6, H6, S6, q6⟩ := hsp
        exact end_ S6 fun s7 J7 => ⟨_, _, J7, q6⟩
      | ret u =>
        obtain ⟨v6, σ6, H6, S6, r6, q6⟩ := hsp
        exact end_ S6 fun s7 J7 => ⟨_, _, _, J7, r6, q6⟩
    | false =>
      show wpAny _ X.A (handleBy (.ref a) X.env []) _ _ _
      refine wpAny_handleBy_nil ?_
      obtain ⟨k1, k2, k3, oe, vs, T, oT, ts', he, hz, hd, h1, hr⟩ := id fl3
      unfold PySem.passOn
      refine wpAny_bind (wpAny_field he hd h1 ?_)
      rw [if_neg (show ¬ ((Value.ref T == Value.none) = true) from by simp)]
      have fin : wpAny (model X.prog X.w) X.A (setFlight (.ref a) X.env.frame) (fun _ s4 => wpAny (model X.prog X.w) X.A (throw (.ref a) : Sem Flow) (SP X pins D) X.xe s4) X.xe { s' with heap := h3 } := by
        rw [hf]
        refine HandSPX.setFlight_upZ fl3 fun h4 hh4 up4 => wpAny_throw (tk _ _ ?_)
        exact ⟨a, B, sI, pins, σ', H', cls, d, rfl, J, nb, (up.trans up3).trans up4, .inr (.inr (by rw [hs]; exact hh4)), na, os, ag, hno rfl⟩
      first
        | exact wpAny_bind (wpAny_pure (wpAny_bind fin))
        | exact wpAny_bind fin
  · cases f with
    | next =>
      obtain ⟨σ', H', J', q⟩ := hsp
      exact wpAny_execs_nil ⟨σ', H', J'.ofTry ok, q⟩
    | brk =>
      obtain ⟨σ', H', J', q⟩ := hsp
      exact ⟨σ', H', J'.ofTry ok, q⟩
    | cont =>
      obtain ⟨σ', H', J', q⟩ := hsp
      exact ⟨σ', H', J'.ofTry ok, q⟩
    | ret u =>
      obtain ⟨v, σ', H', J', r, q⟩ := hsp
      exact ⟨v, σ', H', J'.ofTry ok, r, q⟩
end
/-! ### the caught one: its value, its kind -/
section
variable {X : Cx}
/-- e.f, e caught -/
def tXfT (K : PySem.W.Frag) (f : Str) (te : TE) : TE := fun σ H Q => te σ H fun x H1 => ∃ (a C dd : Addr) (fs : List (Str × V)) (v : V), x = .ref a ∧ H1 a = some (exT a (.ref C) (some dd)) ∧ XfC K C ∧ PySem.W.findIn K (.ref C) f = some none ∧ H1 dd = some (.xd fs) ∧ fs.lookup f = some v ∧ Q v H1
theorem pe_xfT {e : Expr} {te : TE} {pos : Pos} {n : Str} (K : PySem.W.Frag) (hK : X.K = K) (he : PE X e te) (hb : attributeBase e n X.env (eval e X.env) = eval e X.env := by rfl) : PE X (.Attribute e n pos) (tXfT K n te) := by
  subst hK
  refine ⟨fun pins s σ H Q I h => ?_⟩
  refine attr_of hb (thn (he.run pins s σ H _ I h) fun u s1 hh => ?_)
  obtain ⟨x, H1, I1, rx, a, C, dd, fs, v, ex, ht, T, hno, ea, l, q⟩ := hh
  subst ex
  obtain rfl : u = Value.ref a := rx
  obtain ⟨oe, vs, ha, hz, hd⟩ := exT_at I1.hok ht
  have hx : ObjOk X.prog X.w H1 s1.heap dd (.xd fs) := I1.hok dd _ ea
  obtain ⟨mA, hns, hr⟩ := hx
  obtain ⟨od, ho, hl⟩ := lookIn_ns hns
  obtain ⟨u, hu, ru⟩ := RelO.some_of (v := v) (o := mA n) (by rw [← l]; exact hr n)
  have J : PySem.W.InstAt s1.heap a oe C (some od) := ⟨ha, hz.1, by unfold PySem.W.notCls; rw [hd] <;> rfl, by rw [hz.2]; exact ho⟩
  exact HandSPX.exc_get I1.kIn J T.ga T.gg T.exC (PySem.W.findObj_own T.hdC hno rfl (by rw [hl, hu])) (handed_of ru) ⟨v, H1, I1.tok _, ru, q⟩
end
end L2
/-! ### isinstance of a caught one -/
namespace L2
open PySem PySem.Spec PyProof.Rows
structure KitC (K : PySem.W.Frag) (C : Addr) : Prop where
  hc : (PySem.W.clsIn K C).isSome = true
  hg : PySem.W.findIn K (.ref C) "__getattribute__" = some (some (.builtin "BaseException.__getattribute__"))
  hk : PySem.W.findIn K (.ref C) "__getattr__" = some none
  hs : PySem.W.subIn K (.ref C) (.type "BaseException") = some true
  ha : PySem.W.findIn K (.ref C) "__class__" = some (some (.builtin "object.__class__"))
  hn : PySem.W.specialIn K (.builtin "object.__class__") "__get__" = some (some (.builtin "getset_descriptor.__get__"))
  ht : PySem.W.takesIn K (.builtin "object.__class__") = some true
  hm : PySem.W.mroIn K C (.type "object") = some true
def kitEB (K : PySem.W.Frag) (C : Addr) : Bool := (PySem.W.clsIn K C).isSome && (decide (PySem.W.findIn K (.ref C) "__getattribute__" = some (some (.builtin "BaseException.__getattribute__"))) && (decide (PySem.W.findIn K (.ref C) "__getattr__" = some none) && (decide (PySem.W.subIn K (.ref C) (.type "BaseException") = some true) &&
  (decide (PySem.W.findIn K (.ref C) "__class__" = some (some (.builtin "object.__class__"))) && (decide (PySem.W.specialIn K (.builtin "object.__class__") "__get__" = some (some (.builtin "getset_descriptor.__get__"))) && (decide (PySem.W.takesIn K (.builtin "object.__class__") = some true) && decide (PySem.W.mroIn K C (.type "object") = some true)))))))
theorem kitEB_ok {K : PySem.W.Frag} {C : Addr} (h : kitEB K C = true) : KitC K C := by
  obtain ⟨h1, h⟩ := Bool.and_eq_true_iff.mp h
  obtain ⟨h2, h⟩ := Bool.and_eq_true_iff.mp h
  obtain ⟨h3, h⟩ := Bool.and_eq_true_iff.mp h
  obtain ⟨h4, h⟩ := Bool.and_eq_true_iff.mp h
  obtain ⟨h5, h⟩ := Bool.and_eq_true_iff.mp h
  obtain ⟨h6, h⟩ := Bool.and_eq_true_iff.mp h
  obtain ⟨h7, h8⟩ := Bool.and_eq_true_iff.mp h
  exact ⟨h1, of_decide_eq_true h2, of_decide_eq_true h3, of_decide_eq_true h4, of_decide_eq_true h5, of_decide_eq_true h6, of_decide_eq_true h7, of_decide_eq_true h8⟩
def oexB (K : PySem.W.Frag) (C : Addr) : Bool := (match K.lookup C with
  | some ⟨.type "type", _, .cls cd, sl⟩ => (match cd.mro, sl.toList with
    | .ref C' :: bm, [_, _, _, _, some (.builtin n), _] => C' == C && n == "ValueError.__new__" && !cd.hasDel && cd.hasDict && PySem.HandSPX.refsVE bm
    | _, _ => false)
  | _ => false) && (decide (PySem.W.findIn K (.ref C) "__setattr__" = some (some (.builtin "object.__setattr__"))) && (decide (PySem.W.subIn K (.ref C) (.type "BaseException") = some true) && (decide (PySem.W.typeIn K (.ref C) = some (.type "type")) && PySem.W.keepIn K (.ref C))))
theorem oexB_ok {K : PySem.W.Frag} {C : Addr} (h : oexB K C = true) : OexC K C := by
  obtain ⟨q, h⟩ := Bool.and_eq_true_iff.mp h
  obtain ⟨h2, h⟩ := Bool.and_eq_true_iff.mp h
  obtain ⟨h3, h⟩ := Bool.and_eq_true_iff.mp h
  obtain ⟨h4, h5⟩ := Bool.and_eq_true_iff.mp h
  refine ⟨?_, of_decide_eq_true h2, of_decide_eq_true h3, of_decide_eq_true h4, h5⟩
  split at q
  · rename_i dd cd sl ho
    split at q
    · rename_i C' bm k0 k1 k2 k3 n k5 hm hs
      simp only [Bool.and_eq_true, beq_iff_eq, Bool.not_eq_true'] at q
      obtain ⟨⟨⟨⟨rfl, rfl⟩, hdel⟩, hdic⟩, ht⟩ := q
      obtain ⟨nm, bs, mro, ns, qn, hd, sn, sub, ab, col, del⟩ := cd
      dsimp only at hm hdel hdic
      subst hm hdel hdic
      have hsl : sl = #[k0, k1, k2, k3, some (.builtin "ValueError.__new__"), k5] := by
        obtain ⟨l⟩ := sl
        simp only at hs
        rw [hs]
      subst hsl
      exact ⟨nm, qn, ns, bs, bm, sn, sub, ab, col, dd, k0, k1, k2, k3, k5, ho, ht⟩
    · cases q
  · cases q
section
variable {X : Cx}
theorem inst_at {pins : List (Addr × Obj)} {σ : St} {H : Hp} {s : Shared} {a C dd : Addr} {fs : List (Str × V)} (I : Inv X pins σ H s) (e : H a = some (exT a (.ref C) (some dd))) (ed : H dd = some (.xd fs)) : ∃ oe od, PySem.W.InstAt s.heap a oe C (some od) := by
  obtain ⟨oe, vs, ha, hz, hd⟩ := exT_at I.hok e
  have hx : ObjOk X.prog X.w H s.heap dd (.xd fs) := I.hok dd _ ed
  obtain ⟨mA, hns, hr⟩ := hx
  obtain ⟨od, ho, hl⟩ := lookIn_ns hns
  exact ⟨oe, od, ha, hz.1, by unfold PySem.W.notCls; rw [hd] <;> rfl, by rw [hz.2]; exact ho⟩
/-- isinstance(e, c), e a caught exception -/
def rIsX (K : PySem.W.Frag) : List V → Hp → VK → Prop := fun xs H Q => ∃ (a C dd : Addr) (fs : List (Str × V)) (c : V) (cv : Value) (b : Bool), xs = [.ref a, c] ∧ H a = some (exT a (.ref C) (some dd)) ∧ H dd = some (.xd fs) ∧ KitC K C ∧ ClsV c cv ∧ PySem.W.kitOne K (.ref C) cv = some b ∧ Q (.bl b) H
theorem call_isX (K : PySem.W.Frag) (hK : X.K = K) : CallR X (.builtin "isinstance") (rIsX K) := by
  subst hK
  intro pins s σ H xs us Q I r h
  obtain ⟨a, C, dd, fs, c, cv, b, rfl, ha, hd, T, k, e, q⟩ := h
  obtain ⟨u1, u2, rfl, r1, r2⟩ := vals2 r
  have e2 := k.eq r2
  subst e2
  cases (show u1 = Value.ref a from r1)
  obtain ⟨oe, od, J⟩ := inst_at I ha hd
  exact PySem.W.kia_one (PySem.W.kitx_exc T.hc T.hg T.hk T.hs T.ha T.hn T.ht T.hm) I.kIn J e (fun z => nomatch z) fun tk => ⟨.bl b, H, I.tok tk, rfl, q⟩
end
end L2

namespace Mw
open PySem L2
open Evl (Ex)
open He (ga ma)
/-! ### errors as data -/
/-- what an error bears -/
inductive Pay where
  | int (i : Int)
  | tup (l : List Int)
  | str (s : PySem.Str)
  | rows (m : List (List Int))
structure Er where
  cls : PySem.Str
  pay : Pay
def rPay (K : PySem.W.Frag) : Rp Pay := ⟨fun H v p => match p with
  | .int i => rInt.r H v i
  | .tup l => (rTup K rInt).r H v l
  | .str s => rStr.r H v s
  | .rows m => (rLst (rLst rInt)).r H v m, fun {_ _ _ p} e h => match p, h with
  | .int _, h => rInt.up e h
  | .tup _, h => (rTup K rInt).up e h
  | .str _, h => rStr.up e h
  | .rows _, h => (rLst (rLst rInt)).up e h⟩
/-- whether errors of the class c belong to the class d -/
def subE (c d : PySem.Str) : Bool := decide (c = d) || decide (d = "PostError")
/-- the address of the one __init__ -/
def eiA (K : PySem.W.Frag) : Addr := ma K (ga K "PostError") "__init__"
structure ErrF (K : PySem.W.Frag) (mg : PySem.Str → Option Value) (L : List PySem.Str) : Prop where
  glo : ∀ c ∈ L, mg c = some (.ref (ga K c))
  oex : ∀ c ∈ L, OexC K (ga K c)
  xf : ∀ c ∈ L, XfC K (ga K c)
  kit : ∀ c ∈ L, KitC K (ga K c)
  noV : ∀ c ∈ L, PySem.W.findIn K (.ref (ga K c)) "value" = some none
  ini : ∀ c ∈ L, PySem.W.findIn K (.ref (ga K c)) "__init__" = some (some (.ref (eiA K)))
  fnI : PySem.W.typeIn K (.ref (eiA K)) = some (.type "function")
  exm : ∀ c ∈ L, ∀ d ∈ L, PySem.W.exmOne K (.ref (ga K c)) (.ref (ga K d)) = some (subE c d)
  kio : ∀ c ∈ L, ∀ d ∈ L, PySem.W.kitOne K (.ref (ga K c)) (.ref (ga K d)) = some (subE c d)
  kiV : ∀ c ∈ L, PySem.W.kitOne K (.ref (ga K c)) (.type "ValueError") = some true
def errB (L : List PySem.Str) : Hm.Fc := fun K => (L.all fun c => He.eqO (PySem.W.nsIn K mainGlobals c) (some (some (.ref (ga K c)))) && (oexB K (ga K c) && (xfB K (ga K c) && (kitEB K (ga K c) && (decide (PySem.W.findIn K (.ref (ga K c)) "value" = some none) && (decide (PySem.W.findIn K (.ref (ga K c)) "__init__" = some (some (.ref (eiA K)))) &&
  (decide (PySem.W.kitOne K (.ref (ga K c)) (.type "ValueError") = some true) && (L.all fun d => decide (PySem.W.exmOne K (.ref (ga K c)) (.ref (ga K d)) = some (subE c d)) && decide (PySem.W.kitOne K (.ref (ga K c)) (.ref (ga K d)) = some (subE c d)))))))))) && decide (PySem.W.typeIn K (.ref (eiA K)) = some (.type "function"))
theorem errB_ok {K : PySem.W.Frag} {h : Heap} {mg : PySem.Str → Option Value} {L : List PySem.Str} (X : K.In h) (G : h.Ns mainGlobals mg) (b : errB L K = true) : ErrF K mg L := by
  obtain ⟨b1, b2⟩ := Bool.and_eq_true_iff.mp b
  have b1 := List.all_eq_true.mp b1
  have go : ∀ c ∈ L, mg c = some (.ref (ga K c)) ∧ OexC K (ga K c) ∧ XfC K (ga K c) ∧ KitC K (ga K c) ∧ PySem.W.findIn K (.ref (ga K c)) "value" = some none ∧ PySem.W.findIn K (.ref (ga K c)) "__init__" = some (some (.ref (eiA K))) ∧ PySem.W.kitOne K (.ref (ga K c)) (.type "ValueError") = some true ∧
      ∀ d ∈ L, PySem.W.exmOne K (.ref (ga K c)) (.ref (ga K d)) = some (subE c d) ∧ PySem.W.kitOne K (.ref (ga K c)) (.ref (ga K d)) = some (subE c d) := fun c hc => by
    have z := b1 c hc
    obtain ⟨z1, z⟩ := Bool.and_eq_true_iff.mp z
    obtain ⟨z2, z⟩ := Bool.and_eq_true_iff.mp z
    obtain ⟨z3, z⟩ := Bool.and_eq_true_iff.mp z
    obtain ⟨z4, z⟩ := Bool.and_eq_true_iff.mp z
    obtain ⟨z5, z⟩ := Bool.and_eq_true_iff.mp z
    obtain ⟨z6, z⟩ := Bool.and_eq_true_iff.mp z
    obtain ⟨z7, z8⟩ := Bool.and_eq_true_iff.mp z
    refine ⟨PySem.W.mg_of X G (He.eqO_ok z1), oexB_ok z2, xfB_ok z3, kitEB_ok z4, of_decide_eq_true z5, of_decide_eq_true z6, of_decide_eq_true z7, fun d hd => ?_⟩
    have y := List.all_eq_true.mp z8 d hd
    obtain ⟨y1, y2⟩ := Bool.and_eq_true_iff.mp y
    exact ⟨of_decide_eq_true y1, of_decide_eq_true y2⟩
  exact ⟨fun c hc => (go c hc).1, fun c hc => (go c hc).2.1, fun c hc => (go c hc).2.2.1, fun c hc => (go c hc).2.2.2.1, fun c hc => (go c hc).2.2.2.2.1, fun c hc => (go c hc).2.2.2.2.2.1, of_decide_eq_true b2,
    fun c hc d hd => ((go c hc).2.2.2.2.2.2.2 d hd).1, fun c hc d hd => ((go c hc).2.2.2.2.2.2.2 d hd).2, fun c hc => (go c hc).2.2.2.2.2.2.1⟩
/-- an error in flight -/
def rEr (K : PySem.W.Frag) (L : List PySem.Str) (F : Hp) (cls : Value) (d : Option Addr) (er : Er) : Prop := er.cls ∈ L ∧ ∃ dd fs pv, cls = .ref (ga K er.cls) ∧ d = some dd ∧ F dd = some (.xd fs) ∧ fs.lookup ("value" : PySem.Str) = some pv ∧ (rPay K).r F pv er.pay
theorem rEr.up {K : PySem.W.Frag} {L : List PySem.Str} {F F' : Hp} {cls : Value} {d : Option Addr} {er : Er} (e : Ex F F') (h : rEr K L F cls d er) : rEr K L F' cls d er := by
  obtain ⟨h0, dd, fs, pv, h1, h2, h3, h4, h5⟩ := h
  exact ⟨h0, dd, fs, pv, h1, h2, e _ _ h3, h4, (rPay K).up e h5⟩
/-- an error that was caught -/
def rExc (K : PySem.W.Frag) (L : List PySem.Str) : Rp Er := ⟨fun F v er => er.cls ∈ L ∧ ∃ a dd fs pv, v = .ref a ∧ F a = some (exT a (.ref (ga K er.cls)) (some dd)) ∧ F dd = some (.xd fs) ∧ fs.lookup ("value" : PySem.Str) = some pv ∧ (rPay K).r F pv er.pay,
  fun {_ _ _ _} e ⟨h0, a, dd, fs, pv, h1, h2, h3, h4, h5⟩ => ⟨h0, a, dd, fs, pv, h1, e _ _ h2, e _ _ h3, h4, (rPay K).up e h5⟩⟩
section
variable {α β γ : Type} {ra : Rp α} {rb : Rp β} {rc : Rp γ} {σ : L2.St} {F H : Hp} {cs : Cs} {ta tb te : TE} {K : PySem.W.Frag} {L : List PySem.Str} {mg : PySem.Str → Option Value} {c : Act}
end
end Mw
/-! ### calls that may raise, at the slots as they are -/
namespace L2
open PySem PySem.Spec PyProof.Rows
section
variable {X : Cx} {CX : CXT} {k n : Nat} {f C : Addr} {fd : FuncData} {ps ks : List Str} {sp : Sp} {E : St → XK} {x m : Str} {p pos apos : Pos} {e o : Expr} {es : List Expr} {kws : List Keyword} {ta : TE} {t tk : TA} {g : List Value → List Value → List Value} {gV : List V → List V → List V}
end
end L2

namespace Mw
open PySem L2
open Evl (Ex)
open He (ga ma)
/-! ### argument lists of any kinds -/
structure Gp (δ : Type) where
  r : Hp → List V → δ → Prop
  n : Nat
  up : ∀ {H H' : Hp} {vs : List V} {a : δ}, Ex H H' → r H vs a → r H' vs a
  len : ∀ {H : Hp} {vs : List V} {a : δ}, r H vs a → vs.length = n
/-! ### what may raise -/
def okG {α : Type} : Except Er α → Option α
  | .ok a => some a
  | .error _ => none
def EMX {α : Type} (K : PySem.W.Frag) (L : List PySem.Str) (W : WX) (ra : Rp α) (te : TE) (σ : L2.St) (F : Hp) (cs : Cs) (m : Option (Except Er α)) : Prop := ∀ d, m = some d → ∀ c F1 H, Ex F F1 → Cov c F1 cs H → ∀ Q : VK,
  (∀ x, d = .ok x → ∀ v F2 H2, Ex F1 F2 → Cov c F2 cs H2 → ra.r F2 v x → Q v H2) → (∀ er, d = .error er → ∀ cls dd F2 H2, Ex F1 F2 → Cov c F2 cs H2 → rEr K L F2 cls dd er → W cls dd σ H2) → te σ H Q
structure CalX (P : Program) (w : World) (K : PySem.W.Frag) (mg : PySem.Str → Option Value) (base : Heap) (k : Nat) (x : PySem.Str) (ps : List PySem.Str) (sp : Sp) (X : FuncData → Prop) : Prop where
  ex : ∃ f fd, FnOk P w K mg base (L2.CX P w) k f fd ps sp ∧ mg x = some (.ref f) ∧ PySem.W.keepIn K (.ref f) = true ∧ Binds K fd ps [] ∧ X fd
structure CalMX (P : Program) (w : World) (K : PySem.W.Frag) (mg : PySem.Str → Option Value) (base : Heap) (k : Nat) (C : Addr) (m : PySem.Str) (ps : List PySem.Str) (sp : Sp) (X : FuncData → Prop) : Prop where
  ex : ∃ f fd, FnOk P w K mg base (L2.CX P w) k f fd ps sp ∧ Meth K C m f ∧ Binds K fd ps [] ∧ X fd
structure CalIX (P : Program) (w : World) (K : PySem.W.Frag) (mg : PySem.Str → Option Value) (base : Heap) (k : Nat) (C : Addr) (ps : List PySem.Str) (sp : Sp) (X : FuncData → Prop) : Prop where
  ex : ∃ f fd, FnOk P w K mg base (L2.CX P w) k f fd ps sp ∧ L2.Mk K C f ∧ Binds K fd ps [] ∧ X fd
/-- the errors' own __init__ -/
def spEI (K : PySem.W.Frag) (L : List PySem.Str) : Sp := fun vs H Q _ => ∃ (a : Addr) (c : PySem.Str) (y : V), vs = [.ref a, y] ∧ c ∈ L ∧ H a = some (exo a (ga K c) none) ∧ ∀ dx, H dx = none → dx ≠ a → Q .non (upd (upd H dx (exd dx [("value", y)])) a (exo a (ga K c) (some dx)))
theorem spEI_len {K : PySem.W.Frag} {L : List PySem.Str} {vs : List V} {H : Hp} {Q : VK} {E : XK} (h : spEI K L vs H Q E) : vs.length = 2 := by
  obtain ⟨_, _, _, rfl, _⟩ := h
  rfl
structure CalE (P : Program) (w : World) (K : PySem.W.Frag) (mg : PySem.Str → Option Value) (base : Heap) (L : List PySem.Str) : Prop where
  ex : ∃ fd, FnOk P w K mg base CX0 1 (eiA K) fd ["self", "value"] (spEI K L) ∧ Binds K fd ["self", "value"] []
section
variable {α β γ δ ρ : Type} {ra : Rp α} {rb : Rp β} {rc : Rp γ} {rr : Rp ρ} {g : Gp δ} {σ : L2.St} {F H : Hp} {cs : Cs} {ta : TA} {tb te : TE} {K : PySem.W.Frag} {L : List PySem.Str} {mg : PySem.Str → Option Value} {c : Act} {W : WX} {E : XK}
theorem ei_body {D : Ends} {vs : List V} {Q : VK} {L : List PySem.Str} (Er_ : ErrF K mg L) (hD : ∀ σ H, Q .non H → D.nx σ H) (h : spEI K L vs H Q E) : tOst K "value" (tVar 0) (tVar 1) D (start ["self", "value"] vs) H := by
  obtain ⟨a, c, y, rfl, hc, ea, hq⟩ := h
  exact ⟨y, rfl, .ref a, rfl, a, _, rfl, Er_.oex c hc, Er_.noV c hc, .inl ⟨ea, fun dx n ne => hD _ _ (hq dx n ne)⟩⟩
/-- what stands behind the making of an object: cell p's content st, done -/
structure Mkd (C : Addr) {γ : Type} (cell : γ → Cp) (s0 : γ) (rr : Rp ρ) (fin : γ → Option ρ) : Prop where
  new : ∀ F dx, (cell s0).p F (.ins C dx [])
  done : ∀ F st y (p : Addr) o, (cell st).p F o → fin st = some y → F p = none → rr.r (upd F p o) (.ref p) y
/-! statements -/
variable {D : Ends} {tz : TS} {d : Except Er α} {m : Option (Except Er α)}
end
end Mw

namespace Mw
open PySem L2
open Evl (Ex)
open He (ga ma)
section
variable {α0 α1 α2 α3 α4 α5 ρ : Type} {r0 : Rp α0} {r1 : Rp α1} {r2 : Rp α2} {r3 : Rp α3} {C : Addr} {n0 n1 n2 n3 : PySem.Str}
end
section
variable {α β γ δ ρ : Type} {ra : Rp α} {rb : Rp β} {σ : L2.St} {F H : Hp} {cs : Cs} {te : TE} {K : PySem.W.Frag} {L : List PySem.Str} {W : WX}
end
end Mw
namespace L2
open PySem PySem.Spec PyProof.Rows
end L2

namespace Mw
open PySem L2
open Evl (Ex)
open He (ga ma)
section
variable {α β γ δ ρ : Type} {ra : Rp α} {rb : Rp β} {rr : Rp ρ} {g : Gp δ} {σ : L2.St} {F H : Hp} {cs : Cs} {ta : TA} {te : TE} {K : PySem.W.Frag} {L : List PySem.Str} {W : WX} {c : Act}
end
end Mw

namespace Mw
open PySem L2
open Evl (Ex)
end Mw
namespace L2
open PySem PySem.Spec PyProof.Rows
section
variable {X : Cx} {CX : CXT} {k n : Nat} {f C : Addr} {fd : FuncData} {ps ks : List Str} {sp : Sp} {E : St → XK} {x : Str} {p pos : Pos} {e : Expr} {es : List Expr} {kws : List Keyword} {t tk : TA} {g : List Value → List Value → List Value} {gV : List V → List V → List V}
end
end L2
namespace Mw
open PySem L2
open Evl (Ex)
section
variable {α β γ δ ρ : Type} {ra : Rp α} {rr : Rp ρ} {g : Gp δ} {σ : L2.St} {F H : Hp} {cs : Cs} {tk : TA} {K : PySem.W.Frag} {L : List PySem.Str} {W : WX}
end
end Mw

set_option maxHeartbeats 2000000
/-! tuples of four, five, six (printed by tups.py) -/
namespace Mw
open PySem L2
open Evl (Ex)
section
variable {α0 α1 α2 α3 δ : Type} {r0 : Rp α0} {r1 : Rp α1} {r2 : Rp α2} {r3 : Rp α3} {σ : L2.St} {F H : Hp} {cs : Cs} {K : PySem.W.Frag} {te t0 t1 t2 t3 : TE} {tz : TS} {D : Ends} {c : Act}
end
section
variable {α0 α1 α2 α3 α4 δ : Type} {r0 : Rp α0} {r1 : Rp α1} {r2 : Rp α2} {r3 : Rp α3} {r4 : Rp α4} {σ : L2.St} {F H : Hp} {cs : Cs} {K : PySem.W.Frag} {te t0 t1 t2 t3 t4 : TE} {tz : TS} {D : Ends} {c : Act}
end
section
variable {α0 α1 α2 α3 α4 α5 δ : Type} {r0 : Rp α0} {r1 : Rp α1} {r2 : Rp α2} {r3 : Rp α3} {r4 : Rp α4} {r5 : Rp α5} {σ : L2.St} {F H : Hp} {cs : Cs} {K : PySem.W.Frag} {te t0 t1 t2 t3 t4 t5 : TE} {tz : TS} {D : Ends} {c : Act}
end
end Mw

set_option maxHeartbeats 2000000
/-! a cell lent to an expression; insert, reverse, pop -/
namespace Mw
open PySem L2
open Evl (Ex)
section
variable {α β γ : Type} {ra : Rp α} {rc : Rp γ} {σ : L2.St} {F H : Hp} {cs : Cs} {K : PySem.W.Frag} {te ti : TE} {t : TT} {tz : TS} {D : Ends} {c : Act} {d : α} {m : Option α}
end
end Mw

set_option maxHeartbeats 2000000
/-! Mu: repr of integers. -/
namespace Mw
open PySem L2
open Evl (Ex)
section
variable {K : PySem.W.Frag}
end
end Mw

set_option maxHeartbeats 2000000
/-! Mg: defs that are run where no repr is under way; repr of tuples and lists. -/
namespace Mw
open PySem L2 PySem.Spec PyProof.Rows
open Evl (Ex)
/-! ### what such a def promises -/
structure FnG (P : Program) (w : World) (K : PySem.W.Frag) (mg : PySem.Str → Option Value) (base : Heap) (CX : CXT) (k : Nat) (f : Addr) (fd : FuncData) (ps : List PySem.Str) (sp : Sp) : Prop where
  len : ∀ vs H Q E, sp vs H Q E → vs.length = ps.length
  run : ∀ (A : Around) (outer : List Env) (s : Shared) (H : Hp) (args : Args) (us : List Value) (vs : List V) (Q : VK) (E : XK), A.guards = some [] → Room k A → Env0 P w K mg base A outer s H → BindsTo s fd args (ps.zip us) → Vals vs us → sp vs H Q E →
    codeAny (model P w) A (.call (.ref f) args) (CR CX outer P w H s Q E) s
structure CalG (P : Program) (w : World) (K : PySem.W.Frag) (mg : PySem.Str → Option Value) (base : Heap) (k : Nat) (x : PySem.Str) (ps : List PySem.Str) (sp : Sp) (X : FuncData → Prop) : Prop where
  ex : ∃ f fd, FnG P w K mg base CX0 k f fd ps sp ∧ mg x = some (.ref f) ∧ PySem.W.keepIn K (.ref f) = true ∧ Binds K fd ps [] ∧ X fd
section
variable {P : Program} {w : World} {K : PySem.W.Frag} {mg : PySem.Str → Option Value} {base : Heap} {CX : CXT} {k : Nat} {f : Addr} {fd : FuncData} {ps : List PySem.Str} {sp : Sp}
theorem okG_of {x qual : PySem.Str} {params : Arguments} {body : List Stmt} {scope : Scope} {dvs : List V} {kws : List (PySem.Str × V)} {N : List PySem.Str} (F : FunD K x qual params body scope dvs kws f fd) (S : FnScope N ps scope)
    (len : ∀ vs H Q E, sp vs H Q E → vs.length = ps.length)
    (hbody : ∀ (cdv : Value) (A : Around) (outer : List Env) (s : Shared) (H : Hp) (vs : List V) (Q : VK) (E : XK), Room k (A.deeper (envOfC qual scope s.heap.objs.size f cdv)) → A.guards = some [] → sp vs H Q E →
      ∃ t, PSs (cxOf CX P w K mg base N qual scope f cdv A outer s H E) body t ∧ t { nx := fun _ H' => Q .non H', rt := Q } (L2.start N vs) H) : FnG P w K mg base CX (k + 1) f fd ps sp := by
  obtain ⟨oc, od, dV, kV, doc, pm, an, cdv, ct, osl, rfl, lk, hcd, _, _⟩ := F.ex
  refine ⟨len, fun A outer s H args us vs Q E hg hr e0 hb r hsp => ?_⟩
  have kp : ∀ b o, base.get? b = some o → s.heap.get? b = some o := fun b o e => (e0.bs b o e).1
  have kinds : ∀ y ∈ ps.zip us, scope.names.lookup y.1 = some .local ∨ (scope.names.lookup y.1 = some .cell ∧ ((cellsFrom (s.heap.objs.size + 1) scope.names []).lookup y.1).isSome = true) := fun ⟨n, v⟩ hy =>
    (S.par n (List.of_mem_zip hy).1).elim .inl fun q => .inr ⟨q, PySem.W.cellsFrom_some _ _ _ (.inl q)⟩
  refine codeAny_call_function hr.depth (e0.mod.kin.keeps kp _ _ lk) rfl S.co S.gen rfl (PySem.W.codeRec_of (e0.mod.kin.keeps kp) hcd) (hb _ _ _ _ ?_)
  refine wpAny_newFunctionEnv_cells S.kind kinds fun env he s1 x => ?_
  subst he
  refine ⟨(e0.mod.nolimit.keeps kp).keeps x.toInCall.keep, codeAny_func ?_⟩
  obtain ⟨t, ht, hq⟩ := hbody cdv A outer s H vs Q E (hr.deeper _) hg hsp
  have I := inv_start (CX := CX) (P := P) (w := w) (E := E) (qual := qual) (f := f) (cd := cdv) S hr.hd e0 (len _ _ _ _ hsp) r x
  refine wpAny_mono (ht.run [] s1 (L2.start N vs) H _ I hq) (fun fl s' hs => ?_) fun e s' hs => hs
  cases fl with
  | ret u => exact let ⟨v, _, H', J, rv, q⟩ := hs; ⟨v, H', J.os, J.bare, J.base, J.hok, rv, q⟩
  | next => exact let ⟨_, H', J, q⟩ := hs; ⟨V.non, H', J.os, J.bare, J.base, J.hok, (rfl : Value.none = Value.none), q⟩
  | brk => exact let ⟨_, _, _, q⟩ := hs; q.elim
  | cont => exact let ⟨_, _, _, q⟩ := hs; q.elim
end
section
variable {X : Cx} {CX : CXT} {k : Nat} {f : Addr} {fd : FuncData} {ps : List PySem.Str} {sp : Sp} {dvs : List V} {ds : List Value} {E : XK} {x : PySem.Str} {p pos : Pos} {e : Expr} {es : List Expr} {ta : TE} {t : TA}
theorem run_fnG {pins : List (Addr × Obj)} {σ : L2.St} {H : Hp} {s : Shared} {Q : VK} {us : List Value} {vs : List V} (hgd : X.A.guards = some []) (F : FnG X.prog X.w X.K X.mg X.base CX k f fd ps sp) (hr : Room k X.A) (hb : Binds X.K fd ps ds) (hd : Vals dvs ds) (hx : Passes CX X E)
    (I : Inv X pins σ H s) (r : Vals vs us) (h : sp (vs ++ dvs) H Q E) : wpAny (model X.prog X.w) X.A (call (.ref f) us) (EP X pins σ Q) X.xe s := by
  have r2 := r.append hd
  refine wpAny_call (codeAny_mono (F.run X.A X.stack s H ⟨us, []⟩ (us ++ ds) (vs ++ dvs) Q E hgd hr I.env0 (hb s us I.kIn (by rw [← r2.length]; exact F.len _ _ _ _ h)) r2 h) fun r s' hq => ?_)
  cases r with
  | error e => exact hx pins σ H s e s' I hq
  | ok fl =>
    cases fl with
    | ret u => exact I.after hq
    | next => exact hq.elim
    | brk => exact hq.elim
    | cont => exact hq.elim
theorem pe_callG (hgd : X.A.guards = some []) (F : FnG X.prog X.w X.K X.mg X.base CX k f fd ps sp) (hr : Room k X.A) (hg : Gl X x) (hm : X.mg x = some (.ref f)) (hk : PySem.W.keepIn X.K (.ref f) = true) (hb : Binds X.K fd ps ds) (hd : Vals dvs ds) (hx : Passes CX X E)
    (ha : PA X (e :: es) t) (hdb : (x == ("__debug__" : PySem.Str)) = false := by decide) (he : starEach (e :: es) X.env = (false, eval e X.env) :: starEach es X.env := by rfl) (hpl : (backTo pos (starEach es X.env)).any (·.1) = false := by rfl) :
    PE X (.Call (.Name x p) (e :: es) [] pos) (tCall sp dvs E t) := by
  refine ⟨fun pins s σ H Q I h => ?_⟩
  refine wpAny_Call_Name_kw (ld_glob I hg hm ?_ hdb)
  exact PySem.W.callWith_K (h₀ := X.base) I.ok.mod.kin hk (thn (ha.run pos pins s σ H _ I h) fun us s1 ⟨vs, H1, I1, r, q⟩ => ⟨I1.kIn, run_fnG hgd F hr hb hd hx I1 r q⟩) he hpl
end
/-! ### the head -/
section
variable {P : Program} {w : World} {K : PySem.W.Frag} {mg mb : PySem.Str → Option Value} {CX : CXT} {k : Nat} {fa a : Addr} {fd : FuncData} {x : PySem.Str} {sp : Sp} {s₁ : Shared} {vs : List Value} {ns : List Int}
theorem core_callG (KX : K.In s₁.heap) (hns : s₁.heap.Ns mainGlobals mg) (hb : s₁.heap.Ns builtinsNs mb) (hbb : ∀ x : PySem.Str, x ≠ "__name__" → mb x = bootBuiltins x) (hlim : s₁.heap.NoLimit) (hg : s₁.gens = #[])
    (ha : s₁.heap.get? a = some { cls := .type "list", data := .seq vs.toArray }) (hr : Room k callerA)
    (F : ∀ base : Heap, K.In base → base.Ns mainGlobals mg → FnG P w K mg base CX k fa fd [x] sp) (hbind : ∀ (s : Shared) (u : Value), BindsTo s fd ⟨[u], []⟩ [(x, u)])
    (hCX : ∀ H e s', CX [] H s₁ (fun _ _ _ => False) e s' → False) {H : Hp} (hO : Only H) (hsp : sp [.ref a] H (fun v _ => v = .bl true) fun _ _ _ => False) (hok : HOk P w H s₁.heap) (hA : ∀ b, H b ≠ none → b = a) (hK : H a ≠ none → K.lookup a = none) :
    codeAny (model P w) callerA (.call (.ref fa) ⟨[.ref a], []⟩) (fun r s' => r = .ok (.ret (.bool true)) ∧ OldK s₁.heap s'.heap ∧ s'.os = s₁.os ∧ AllBare s'.gens) s₁ := by
  have dict_free : ∀ {b : Addr} {o : Obj} {es : Array DictEntry} {n : Nat}, s₁.heap.get? b = some o → o.data = .dict es n → H b = none := fun {b o es n} e d => by
    refine Classical.byContradiction fun q => ?_
    have eb := hA b q
    rw [eb, ha] at e
    cases e
    cases d
  have up : ∀ {b : Addr} {m : PySem.Str → Option Value}, s₁.heap.Ns b m → (hidT s₁.heap H).Ns b m := fun ⟨o, es, ep, e, d, r⟩ => ⟨o, es, ep, hidT_get e (dict_free e d), d, r⟩
  have hKb : K.In (hidT s₁.heap H) := fun b o e => hidT_get (KX b o e) (Classical.byContradiction fun q => by
    have eb := hA b q
    rw [eb] at q e
    rw [hK q] at e
    cases e)
  have hM : Mod K mg (hidT s₁.heap H) := ⟨hKb, up hns, ⟨mb, up hb, hbb⟩, let ⟨mc, h1, h2⟩ := hlim; ⟨mc, up h1, h2⟩⟩
  have e0 : Env0 P w K mg (hidT s₁.heap H) callerA [] s₁ H := ⟨rfl, hM, fun b o e => of_hidT e, Nat.le_of_eq (hidT_size _ _), trivial, fun b hb => absurd (show b ∈ ([] : List Addr) from hb) (by simp), hok, .of_eq hg⟩
  refine codeAny_mono ((F _ hKb (up hns)).run callerA [] s₁ H ⟨[.ref a], []⟩ [.ref a] [.ref a] _ _ rfl hr e0 (hbind s₁ (.ref a)) (.cons rfl .nil) hsp) fun r s' h => ?_
  cases r with
  | error e => exact (hCX H e s' h).elim
  | ok fl =>
    cases fl with
    | next => exact h.elim
    | brk => exact h.elim
    | cont => exact h.elim
    | ret u =>
      obtain ⟨v, H', os, bare, un, hok', r', q⟩ := h
      cases (show v = .bl true from q)
      obtain rfl : u = Value.bool true := r'
      refine ⟨rfl, OldK.of_keep fun b o e => ?_, os, bare⟩
      rcases hO b with z | ⟨ob, xs, z⟩
      · exact un.keep b o e z (fun y => absurd (show b ∈ ([] : List Addr) from y) (by simp)) (by simp)
      · have h1 := (hok b _ z).1
        have h2 := (hok' b _ (un.frzs b ob _ z)).1
        rw [e] at h1
        cases h1
        exact h2
theorem law_callG (KX : K.In s₁.heap) (hns : s₁.heap.Ns mainGlobals mg) (hb : s₁.heap.Ns builtinsNs mb) (hbb : ∀ x : PySem.Str, x ≠ "__name__" → mb x = bootBuiltins x) (hlim : s₁.heap.NoLimit) (hg : s₁.gens = #[])
    (ha : s₁.heap.get? a = some { cls := .type "list", data := .seq vs.toArray }) (hi : IntsAre vs ns) (hl : ns.length ≤ sizeLine) (hr : Room k callerA)
    (F : ∀ base : Heap, K.In base → base.Ns mainGlobals mg → FnG P w K mg base CX k fa fd [x] sp) (hbind : ∀ (s : Shared) (u : Value), BindsTo s fd ⟨[u], []⟩ [(x, u)])
    (hsp : ∀ H : Hp, Only H → SqL K H a (ns.map V.int) → sp [.ref a] H (fun v _ => v = .bl true) fun _ _ _ => False)
    (hCX : ∀ H e s', CX [] H s₁ (fun _ _ _ => False) e s' → False) :
    codeAny (model P w) callerA (.call (.ref fa) ⟨[.ref a], []⟩) (fun r s' => r = .ok (.ret (.bool true)) ∧ OldK s₁.heap s'.heap ∧ s'.os = s₁.os ∧ AllBare s'.gens) s₁ := by
  have rv := vals_ints hi
  cases hk : K.lookup a with
  | some o =>
    have e := KX a o hk
    rw [ha] at e
    cases e
    have n0 : ∀ b, ¬ (fun _ => none : Hp) b ≠ none := fun b z => z rfl
    exact core_callG KX hns hb hbb hlim hg ha hr F hbind hCX (H := fun _ => none) (fun _ => .inl rfl) (hsp _ (fun _ => .inl rfl) (.inr ⟨_, vs.toArray, _, hk, rfl, rfl, rfl, by rw [List.size_toArray, hi.length]; exact hl, by simpa using rv⟩)) (fun b u z => nomatch z) (fun b z => (n0 b z).elim) fun z => (n0 a z).elim
  | none =>
    have at_ : ∀ {b : Addr} {u : HO}, (if b = a then some (HO.frz { cls := .type "list", data := .seq vs.toArray } (.lst (ns.map V.int))) else none) = some u → b = a ∧ u = .frz { cls := .type "list", data := .seq vs.toArray } (.lst (ns.map V.int)) := fun {b u} z => by
      by_cases hb : b = a
      · exact ⟨hb, (Option.some.inj ((if_pos hb).symm.trans z)).symm⟩
      · cases (if_neg hb).symm.trans z
    have hO : Only fun b => if b = a then some (.frz { cls := .type "list", data := .seq vs.toArray } (.lst (ns.map V.int))) else none := fun b => by
      by_cases hb : b = a
      · exact .inr ⟨_, _, if_pos hb⟩
      · exact .inl (if_neg hb)
    refine core_callG KX hns hb hbb hlim hg ha hr F hbind hCX hO (hsp _ hO (.inl (.inr ⟨_, if_pos rfl⟩))) (fun b u z => ?_) (fun b z => ?_) fun _ => hk
    · obtain ⟨rfl, rfl⟩ := at_ z
      exact ⟨ha, by rw [List.length_map]; exact hl, vs, _, rv, ha⟩
    · exact Classical.byContradiction fun hb => z (if_neg hb)
end
theorem walk_ofG {l : PySem.W.OpenLaw} {n k : Nat} {q : Program} {loose : List PySem.Str} {XP : (PySem.Str → Option Value) → Heap → Prop} {YP : World → Heap → Prop} {d : DefRec} {CX : CXT} {x : PySem.Str}
    (hn : l.most = some n) (hn2 : n ≤ sizeLine) (hdf : d.params.defaults = []) (hr : Room k callerA)
    (F : ∀ (w : World) (mg : PySem.Str → Option Value) (fa : Addr) (h : Heap), YP w h → h.Ns mainGlobals mg → mg d.name = some (.ref fa) →
      ∃ (K : PySem.W.Frag) (fd : FuncData) (sp : Sp), K.In h ∧ (∀ (s : Shared) (u : Value), BindsTo s fd ⟨[u], []⟩ [(x, u)]) ∧
        (∀ (H : Hp) (a : Addr) (ns : List Int), ns.length ≤ n → Only H → SqL K H a (ns.map V.int) → sp [.ref a] H (fun v _ => v = .bl true) fun _ _ _ => False) ∧
        ∀ base : Heap, K.In base → base.Ns mainGlobals mg → FnG l.prog w K mg base CX k fa fd [x] sp)
    (hCX : ∀ (H : Hp) (s : Shared) (e : Value) (s' : Shared), CX [] H s (fun _ _ _ => False) e s' → False) :
    PySem.W.WalkO q loose XP YP l.row.toRowW d [] (fun f vs => PySem.call f vs) :=
  Att.attach_call hn hdf fun w s₀ s₁ mg mb fa o pm cd doc a vs ns G Y ho hd hcd hmg hobj hints hlen hg => by
    obtain ⟨K, fd, sp, KX, hb, hsp, hF⟩ := F w mg fa _ Y G.T.g hmg
    exact law_callG KX G.T.g G.T.b G.T.builtins G.T.nolimit hg hobj hints (Nat.le_trans hlen hn2) hr hF hb (fun H hO hS => hsp H a ns hlen hO hS) fun H e s' => hCX H s₁ e s'
/-! ### repr of integers, strings, tuples and lists -/
section
variable {X : Cx} {k : Nat}
end
section
variable {K : PySem.W.Frag} {α β : Type} {ra : Rp α} {rb : Rp β} {d : α → PyData} {db : β → PyData}
end
/-! what is shown -/
theorem shown_int_le {i : Int} (h : i.natAbs.log2 < 1920) : (PyData.shown (.int i)).length ≤ 1921 := by
  simp only [PyData.shown]
  rw [PySem.ofString_length]
  exact int_text_length_le (k := 1920) (by decide) h
/-! ### a value of any kind -/
section
variable {K : PySem.W.Frag} {L : List PySem.Str} {W : WX} {α : Type} {ra : Rp α} {te : TE} {σ : L2.St} {F : Hp} {cs : Cs}
end
end Mw

set_option maxHeartbeats 2000000
/-! Mb: own classes: isinstance, ==, the two-place operators. -/
namespace Mw
open PySem L2 PySem.Spec PyProof.Rows
open Evl (Ex)
/-- what isinstance and the operators ask of a class -/
structure InsC (K : PySem.W.Frag) (C : Addr) : Prop where
  cl : Cls K C
  ha : PySem.W.findIn K (.ref C) "__class__" = some (some (.builtin "object.__class__"))
  hn : PySem.W.specialIn K (.builtin "object.__class__") "__get__" = some (some (.builtin "getset_descriptor.__get__"))
  htk : PySem.W.takesIn K (.builtin "object.__class__") = some true
  hm : PySem.W.mroIn K C (.type "object") = some true
  one : PySem.W.kitOne K (.ref C) (.ref C) = some true
  sf : PySem.W.selfFirst K C = true
section
variable {X : Cx} {CX : CXT} {k : Nat} {C g : Addr} {fd : FuncData} {ps : List PySem.Str} {sp : Sp} {dvs : List V} {ds : List Value} {E : XK}
theorem back {pins : List (Addr × Obj)} {σ : L2.St} {Q : VK} {u : Value} {s : Shared} (h : EP X pins σ Q u s) : PySem.W.CmpBack (EP X pins σ Q) u s := by
  obtain ⟨v, H', I, r, q⟩ := h
  have z : u ≠ .notImplemented := fun e => by
    subst e
    cases v <;> first | (cases (show Value.notImplemented = _ from r)) | (obtain ⟨t, e⟩ := r; cases e)
  unfold PySem.W.CmpBack
  cases u <;> first | exact absurd rfl z | exact ⟨v, H', I, r, q⟩
end
section
variable {ω α : Type} {ro rr : Rp ω} {ra : Rp α} {C : Addr} {E : XK} {K : PySem.W.Frag} {σ : L2.St} {F : Hp} {cs : Cs} {te : TE}
end
/-! ### operators that may raise -/
section
variable {X : Cx} {CX : CXT} {k : Nat} {C g : Addr} {fd : FuncData} {ps : List PySem.Str} {sp : Sp} {E : L2.St → XK} {a b : Expr} {pos : Pos} {ta tb : TE}
end
section
variable {K : PySem.W.Frag} {L : List PySem.Str} {W : WX} {ω ρ : Type} {ro : Rp ω} {rr : Rp ρ} {C : Addr} {ta tb : TE} {σ : L2.St} {F : Hp} {cs : Cs} {m : ω × ω × Unit → Option (Except Er ρ)} {m0 m1 : Option ω}
end
structure CalOX (P : Program) (w : World) (K : PySem.W.Frag) (mg : PySem.Str → Option Value) (base : Heap) (k : Nat) (C : Addr) (m : PySem.Str) (ps : List PySem.Str) (sp : Sp) (X : FuncData → Prop) : Prop where
  ex : ∃ f fd, FnOk P w K mg base (L2.CX P w) k f fd ps sp ∧ DefOf K C m f ∧ Binds K fd ps [] ∧ X fd
end Mw
namespace Hm
open PySem PySem.Spec PyProof.Rows L2 He Mw
end Hm

set_option maxHeartbeats 2000000
/-! Mc: the keys of a dict as a list. -/
namespace Mw
open PySem L2 PySem.Spec PyProof.Rows
open Evl (Ex)
section
variable {c : Act} {F H : Hp} {cs : Cs} {b : Addr} {vs : List V} {K : PySem.W.Frag}
variable {β : Type} {rb : Rp β}
end
/-! ### [e for x in l if t], the test changes a cell -/
section
variable {α β γ : Type} {ra : Rp α} {rb : Rp β} {σ : L2.St} {F H : Hp} {cs : γ → Cs} {K : PySem.W.Frag} {te : TE} {wi : TI} {g : TG} {tt : TT} {vs : List Nat}
end
/-- data told otherwise -/
theorem em_mapR {α β : Type} {ra : Rp α} {rb : Rp β} {te : TE} {σ : L2.St} {F : Hp} {cs : Cs} {g : α → β} {m : Option α} (hp : ∀ F v x, ra.r F v x → rb.r F v (g x)) (h : EM ra te σ F cs m) : EM rb te σ F cs (m.map g) := fun d q c F1 H e k Q hQ => by
  cases m with
  | none => cases q
  | some a =>
    cases q
    exact h a rfl c F1 H e k Q fun v F2 H2 e2 k2 r2 => hQ v F2 H2 e2 k2 (hp _ _ _ r2)
end Mw

set_option maxHeartbeats 2000000
/-! Mt: sets of int tuples that are counted; dict comprehensions with tuple keys; setdefault, get. -/
namespace Mw
open PySem PySem.Spec PyProof.Rows L2
open Evl (Ex)
section
variable {P : Program} {w : World} {A : Around} {E : Value → Shared → Prop} {s : Shared} {a x : Addr} {L : List (Addr × List Int)} {k : List Int} {es : Array (Int × Value)} {ep : Nat} {t : SetTable}
end
section
variable {X : Cx} {pins : List (Addr × Obj)} {σ : L2.St} {H : Hp} {s : Shared} {E : Value → Shared → Prop} {D b : Addr} {L : List (Addr × List Int)} {k : List Int}
abbrev TupsAt (K : PySem.W.Frag) (H : Hp) (L : List (Addr × List Int)) : Prop := ∀ p ∈ L, SqT K H p.1 (p.2.map V.int)
/-! ### a comprehension with one for, whatever it fills -/
/-- what an accumulating step reads: from the state behind the test to the turn's end -/
abbrev Acc := L2.St → Hp → Addr → (Hp → Prop) → Prop
/-- an evaluation's step: at an environment, with what comes behind and at an error -/
abbrev AStep := Env → Addr → (Shared → Prop) → (Value → Shared → Prop) → Shared → Prop
/-- the form of the comprehension: how its loop goes, how it begins -/
structure AForm (P : Program) (w : World) (A : Around) (node : Expr) (tg iter : Expr) (ifs : List Expr) (mk : Sem Value) (raw : Obj) (step : AStep) : Prop where
  cl : clausesOf node = [⟨tg, iter, ifs, 0⟩]
  mk_ok : ∀ {s : Shared} {Q : Value → Shared → Prop} {E : Value → Shared → Prop}, Q (.ref s.heap.objs.size) { s with heap := s.heap.push raw } → wpAny (model P w) A mk Q E s
  loop : ∀ {it D : Addr} {env : Env} {R : Result → Shared → Prop} (Iv : Nat → Shared → Prop),
    (∀ n s, Iv n s → wpAny (model P w) A (pyNext (.ref it)) (fun r s1 => match r with
      | none => R (.ok .next) s1
      | some v => wpAny (model P w) A (letOwnedTupleGo tg (.ref it) v) (fun _ s2 => wpAny (model P w) A (assign tg env v) (fun _ s3 =>
          wpAny (model P w) A (forIn ifs true fun c r => if r = true then do let ok ← isTrue c env (eval c env); pure (ForInStep.yield ok) else pure (ForInStep.yield r)) (fun ok s4 =>
            if ok = true then step env D (fun s5 => ∃ m, m < n ∧ Iv m s5) (notedBy (model P w) A env fun e s' => R (.error e) s') s4 else ∃ m, m < n ∧ Iv m s4)
          (notedBy (model P w) A env fun e s' => R (.error e) s') s3) (notedBy (model P w) A env fun e s' => R (.error e) s') s2) (notedBy (model P w) A env fun e s' => R (.error e) s') s1)
      (notedBy (model P w) A env fun e s' => R (.error e) s') s) →
    ∀ n s, Iv n s → codeAny (model P w) A (.compLoop node 0 (.ref it) (.ref D) env) R s
  start : ∀ {it D : Addr} {env : Env} {R : Result → Shared → Prop} {s : Shared}, codeAny (model P w) A (.compLoop node 0 (.ref it) (.ref D) env) R s →
    wpAny (model P w) A (pyIter (.ref it)) (fun it' s' => codeAny (model P w) A (.compLoop node 0 it' (.ref D) env) R s') (notedBy (model P w) A env fun x s' => R (.error x) s') s →
    codeAny (model P w) A (.compStart node 0 (.ref it) (.ref D) env) R s
end
section
variable {X : Cx}
/-! ### len(set), set(list) -/
end
/-! ### data -/
def lim {α : Type} (B : Nat) (l : List α) : Option (List α) := if l.length ≤ B then some l else none
/-- the different ones, in the order in which they come first -/
def dd : List (List Int) → List (List Int)
  | [] => []
  | k :: l => k :: (dd l).filter fun j => !decide (j = k)
def dOf {β : Type} (l : List (List Int × β)) : List (List Int × β) := l.foldl (fun d kv => dPut d kv.1 kv.2) []
/-! ### what is filled step by step -/
section
variable {α β δ : Type} {ra : Rp α} {rb : Rp β} {σ : L2.St} {F H : Hp} {cs : Cs} {K : PySem.W.Frag} {te tk tv : TE} {wi : TI} {g : TG} {tt : TT} {vs : List Nat} {P : Program} {w : World} {ta : Acc}
def EC (cell : Addr → δ → Cp) (te : TE) (σ : L2.St) (F : Hp) (cs : Cs) (m : Option δ) : Prop := ∀ d, m = some d → ∀ c F1 H, Ex F F1 → Cov c F1 cs H → ∀ Q : VK, (∀ p F2 H2, Ex F1 F2 → Cov c F2 (cs ++ [(p, cell p d)]) H2 → c.H0 p = none → Q (.ref p) H2) → te σ H Q
/-! sets -/
def SetOk (F : Hp) (L : List (Addr × List Int)) (ks : List (List Int)) : Prop := (∀ p ∈ L, F p.1 = some (.tup (p.2.map V.int))) ∧ ∀ k, k ∈ L.map (·.2) ↔ k ∈ ks
theorem SetOk.up {F F' : Hp} {L : List (Addr × List Int)} {ks : List (List Int)} (e : Ex F F') (h : SetOk F L ks) : SetOk F' L ks := ⟨fun p hp => e _ _ (h.1 p hp), h.2⟩
def cSet (P : Program) (w : World) (D : Addr) (ks : List (List Int)) : Cp := ⟨fun F o => ∃ L, o = SetTO P w D L ∧ SetOk F L ks ∧ L.length ≤ ks.length, fun e ⟨L, h1, h2, h3⟩ => ⟨L, h1, h2.up e, h3⟩, fun ⟨_, h, _⟩ => by subst h; trivial⟩
def rSet (P : Program) (w : World) : Rp (List (List Int)) := ⟨fun F v ks => ∃ a L, v = .ref a ∧ F a = some (SetTO P w a L) ∧ SetOk F L ks, fun e ⟨a, L, h1, h2, h3⟩ => ⟨a, L, h1, e _ _ h2, h3.up e⟩⟩
theorem TupsAt.of {c : Act} {L : List (Addr × List Int)} {ks : List (List Int)} (h : SetOk F L ks) (e : Ex F H) : TupsAt K H L := fun p hp => ext_ e (h.1 p hp)
theorem EC.set {m : Option (List (List Int))} (h : EC (cSet P w) te σ F cs m) : EM (rSet P w) te σ F cs m := fun d q c F1 H e k Q hQ => by
  refine h d q c F1 H e k Q fun p F2 H2 e2 k2 n2 => ?_
  obtain ⟨f1, _, o, f3, L, rfl, f4, f5⟩ := k2.cell (p, cSet P w p d) (List.mem_append_right _ List.mem_cons_self)
  exact hQ (.ref p) _ H2 (e2.trans (Ex.new f1)) (k2.toHead.freeze f3 n2 |>.perm (by rw [List.append_nil])) ⟨p, L, rfl, upd_same, f4.up (Ex.new f1)⟩
end
/-! ### dicts by comprehension; get; setdefault -/
section
variable {α β δ : Type} {ra : Rp α} {rb : Rp β} {σ : L2.St} {F H : Hp} {cs : Cs} {K : PySem.W.Frag} {te tk tv td ty tx : TE} {wi : TI} {g : TG} {tt : TT} {vs : List Nat} {P : Program} {w : World} {ta : Acc}
theorem EC.dict {m : Option (List (List Int × β))} (h : EC (fun _ acc => cDic rb (dOf acc)) te σ F cs m) : EM (rDic rb) te σ F cs (m.map dOf) := fun d q c F1 H e k Q hQ => by
  cases m with
  | none => cases q
  | some d0 =>
    cases q
    refine h d0 rfl c F1 H e k Q fun p F2 H2 e2 k2 n2 => ?_
    obtain ⟨f1, _, o, f3, kvs, rfl, f4⟩ := k2.cell (p, cDic rb (dOf d0)) (List.mem_append_right _ List.mem_cons_self)
    exact hQ (.ref p) _ H2 (e2.trans (Ex.new f1)) (k2.toHead.freeze f3 n2 |>.perm (by rw [List.append_nil])) ⟨p, kvs, rfl, upd_same, Rkv.up (Ex.new f1) f4⟩
/-! dicts keyed by ints: by comprehension, asked by in -/
end
section
variable {X : Cx} {P : Program} {w : World} {K : PySem.W.Frag}
theorem un2 {k : Nat} {A : Around} (r : Room k A) : A.units + 2 < cLine := by have := r.un; omega
end
end Mw

set_option maxHeartbeats 2000000
/-! Ma (printed by fam2.py): the followed state holds several cells. -/
namespace Mw
open PySem PySem.Spec PyProof.Rows L2
open Evl (Ex)
section
variable {σ : L2.St} {F : Hp} {γ A : Type} {cs : γ → Cs} {s : γ} {get : γ → A} {put : γ → A → γ}
end
/-! ### xs.pop(i), xs.pop() -/
section
variable {β γ : Type} {rb : Rp β} {σ : L2.St} {F : Hp} {cs : γ → Cs} {s : γ} {get : γ → List β} {put : γ → List β → γ} {K : PySem.W.Frag} {te : TE}
theorem Rs.init : ∀ {F : Hp} {vs : List V} {ds : List β}, Rs rb F vs ds → Rs rb F vs.dropLast ds.dropLast
  | _, _, _, .nil => .nil
  | _, _, _, .cons h .nil => .nil
  | _, _, _, .cons h (.cons h2 t) => .cons h (Rs.init (.cons h2 t))
theorem Rs.at_ : ∀ {F : Hp} {vs : List V} {ds : List β} {k : Nat} {d : β}, Rs rb F vs ds → ds[k]? = some d → ∃ v, vs[k]? = some v ∧ rb.r F v d
  | _, _, _, _, _, .nil, h => by simp at h
  | _, _, _, 0, _, .cons r t, h => by simp at h; subst h; exact ⟨_, rfl, r⟩
  | _, _, _, k + 1, d, .cons r t, h => by
    simp at h
    obtain ⟨v, h1, h2⟩ := Rs.at_ t h
    exact ⟨v, by simpa using h1, h2⟩
end
/-! ### a, b = [..], [..]; a = b = e -/
section
variable {α β : Type} {ra : Rp α} {rb : Rp β} {σ : L2.St} {F H : Hp} {cs : Cs} {te ta tb : TE} {tz : TS} {c : Act} {D : Ends}
end
end Mw

set_option maxHeartbeats 2000000
/-! M1: a module's tuple of ints; a def that returns a tuple with a new list in it. -/
namespace Mw
open PySem PySem.Spec PyProof.Rows L2
open Evl (Ex)
section
variable (K : PySem.W.Frag)
end
section
variable {α β γ δ ρ τ : Type} {ra : Rp α} {rb : Rp β} {rr : Rp ρ} {rt : Rp τ} {σ : L2.St} {F H : Hp} {cs : Cs} {K : PySem.W.Frag} {te t1 t2 : TE} {tz : TS} {c : Act} {D : Ends}
/-! ### return (xs, e), xs a new list -/
end
end Mw
namespace Hm
open PySem PySem.Spec PyProof.Rows L2 He Mw
end Hm

set_option maxHeartbeats 2000000
/-! M2: slices with effects; isinstance of what may be None. -/
namespace Mw
open PySem PySem.Spec PyProof.Rows L2
open Evl (Ex)
section
variable {α γ : Type} {ra : Rp α} {σ : L2.St} {F : Hp} {cs : γ → Cs} {s : γ} {K : PySem.W.Frag} {te ta : TE} {tl th : TO}
end
/-! xs.index(y) -/
section
variable {α γ : Type} [DecidableEq α] [Sk α] {ra : Rp α} {σ : L2.St} {F : Hp} {cs : Cs} {K : PySem.W.Frag} {te tl : TE}
end
end Mw
namespace Mw
open PySem PySem.Spec PyProof.Rows L2
open Evl (Ex)
section
variable {α γ : Type} {ra : Rp α} {σ : L2.St} {F H : Hp} {cs : Cs} {wi : TI} {g : TG} {tb : TS} {D : Ends} {c : Act} {m : Option (List α)} {ds : List α}
end
end Mw


set_option maxHeartbeats 2000000
/-! Du: values of several kinds: data told as such (rDat), one of two kinds (rAlt). -/
namespace Mw
open PySem PySem.Spec PyProof.Rows L2
open Evl (Ex)
section
variable {K : PySem.W.Frag} {α β : Type} {ra : Rp α} {rb : Rp β} {te : TE} {σ : L2.St} {F : Hp} {cs : Cs}
end
end Mw

set_option maxHeartbeats 2000000
/-! Dv: calls that may raise, with effects in their arguments; bits; cells read at an index that is drawn. -/
namespace Mw
open PySem PySem.Spec PyProof.Rows L2
open Evl (Ex)
/-! ### bits -/
instance (a b : Int) : Decidable (CPow a b) := by unfold CPow; infer_instance
/-! ### with effects -/
section
variable {α β γ δ ρ : Type} {ra : Rp α} {rb : Rp β} {rr : Rp ρ} {g : Gp δ} {σ : L2.St} {F H : Hp} {cs : γ → Cs} {s : γ} {ta : TA} {te tb : TE} {K : PySem.W.Frag} {L : List PySem.Str} {W : WX} {c : Act}
theorem sm_mapR {f : α → β} {m : Option (α × γ)} (hp : ∀ F v x, ra.r F v x → rb.r F v (f x)) (h : SM ra te σ F (cs s) m cs) : SM rb te σ F (cs s) (m.map fun r => (f r.1, r.2)) cs := fun d s' q c F1 H e k Q hQ => by
  cases m with
  | none => cases q
  | some a =>
    obtain ⟨a, s1⟩ := a
    cases q
    exact h a _ rfl c F1 H e k Q fun v F2 H2 e2 k2 r2 => hQ v F2 H2 e2 k2 (hp _ _ _ r2)
end
/-! ### pairs of what may raise -/
section
variable {α β : Type} {ra : Rp α} {rb : Rp β} {σ : L2.St} {F H : Hp} {cs : Cs} {ta tb te : TE} {K : PySem.W.Frag} {L : List PySem.Str} {W : WX} {c : Act} {D : Ends} {tz : TS}
end
/-! ### makings and methods, with effects in the arguments -/
section
variable {α β α1 α2 α3 γ ω ρ : Type} {ra : Rp α} {rb : Rp β} {r1 : Rp α1} {r2 : Rp α2} {r3 : Rp α3} {ro : Rp ω} {rr : Rp ρ} {σ : L2.St} {F : Hp} {cs : γ → Cs} {s : γ} {ta : TA} {te t1 : TE} {E : XK} {C : Addr} {n1 n2 mn : PySem.Str}
end
/-! ### a word in a tuple of words -/
/-! ### the length of what a call returns that may raise -/
/-! ### isinstance of a value that may be an object of a class or data -/
structure KitD (K : PySem.W.Frag) (C : Addr) : Prop where
  no : ∀ T ∈ ["NoneType", "bool", "int", "str", "list", "tuple"], PySem.W.kitOne K (.type T) (.ref C) = some false
section
variable {α ω : Type} {ra : Rp α} {ro : Rp ω} {K : PySem.W.Frag} {C : Addr} {σ : L2.St} {F : Hp} {cs : Cs} {te : TE} {m : Option α}
end
end Mw
namespace Hm
open PySem PySem.Spec PyProof.Rows L2 He Mw
end Hm
namespace Mw
end Mw

set_option maxHeartbeats 2000000
/-! Dw: a list unpacked into two names. -/
namespace Mw
open PySem PySem.Spec PyProof.Rows L2
open Evl (Ex)
/-! ### a list unpacked into names -/
end Mw

set_option maxHeartbeats 2000000
/-! Dx: the least of a list of tuples of ints -/
namespace Mw
open PySem PySem.Spec PyProof.Rows L2 PySem.SeqAt
open Evl (Ex)
def tI (l : List Int) : PyData := .tuple (l.map .int)
section
variable {prog : Program} {w : World} {A : Around} {E : Value → Shared → Prop} {s : Shared}
end
section
variable {α β : Type} {ra : Rp α} {rb : Rp β} {σ : L2.St} {F H : Hp} {cs : Cs} {ta tb : TE} {D : Ends} {c : Act} {tz : TS}
end
/-! sorted of ints -/
end Mw

set_option maxHeartbeats 2000000
/-! Dy: zip of a list and a tuple, targets of a pair whose first is a triple, lists as tests. -/
namespace Mw
open PySem PySem.Spec PyProof.Rows L2
open Evl (Ex)
/-! ### zip of a list and a tuple -/
section
variable {α β γ : Type} {ra : Rp α} {rb : Rp β} {rc : Rp γ} {σ : L2.St} {F H : Hp} {cs : Cs} {K : PySem.W.Frag} {ta tb : TE}
/-! ### a pair whose first is a triple, as a target -/
/-! ### a list as a test -/
end
end Mw

set_option maxHeartbeats 2000000
/-! Dz: the values of a dict whose keys are tuples: d.values() in list() and sorted(). -/
namespace Mw
open PySem PySem.Spec PyProof.Rows L2
open Evl (Ex)
/-! ### the machine: a values view of a dict with any keys -/
section
variable {prog : Program} {w : World} {A : Around} {E : Value → Shared → Prop} {s : Shared} {d v : Addr} {es : Array DictEntry} {ep : Nat} {o : Obj}
end
/-! ### readings -/
section
variable {X : Cx} {e : Expr} {td : TE} {apos cpos : Pos}
end
/-! ### expressions -/
section
variable {c : Act} {F H : Hp} {cs : Cs} {p : Addr} {o : HO}
end
section
variable {β : Type} {rb : Rp β} {σ : L2.St} {F : Hp} {cs : Cs} {td : TE} {md : Option (List (List Int × β))}
end
end Mw

set_option maxHeartbeats 2000000
/-! Ea: cells lent to an expression whose value stands on the heap; a list of cells (`[list(a), list(b)]`, changed at constant places). -/
namespace Mw
open PySem L2
open Evl (Ex)
/-! ### what holds no old list -/
def TupKeep (F F' : Hp) : Prop := ∀ a vs, F a = some (.tup vs) → F' a = some (.tup vs)
class TP {α : Type} (ra : Rp α) : Prop where
  t : ∀ {F F' : Hp} {v : V} {d : α}, TupKeep F F' → ra.r F v d → ra.r F' v d
section
variable {α β γ δ : Type} {ra : Rp α} {rb : Rp β} {rc : Rp γ} {K : PySem.W.Frag}
instance tp_int : TP rInt := ⟨fun _ h => h⟩
instance tp_bool : TP rBool := ⟨fun _ h => h⟩
instance tp_str : TP rStr := ⟨fun _ h => h⟩
instance tp_non : TP rNon := ⟨fun _ h => h⟩
instance tp_opt [ta : TP ra] : TP (rOpt ra) := ⟨fun {_ _ _ d} e h => match d, h with
  | none, h => h
  | some _, h => ⟨h.1, ta.t e h.2⟩⟩
theorem Rs.tp [ta : TP ra] {F F' : Hp} (e : TupKeep F F') : ∀ {vs : List V} {ds : List α}, Rs ra F vs ds → Rs ra F' vs ds
  | _, _, .nil => .nil
  | _, _, .cons h t => .cons (ta.t e h) (Rs.tp e t)
instance tp_tup [ta : TP ra] : TP (rTup K ra) := ⟨fun e ⟨a, vs, h1, h2, h3⟩ => ⟨a, vs, h1, e _ _ h2, h3.tp e⟩⟩
instance tp_p2 [ta : TP ra] [tb : TP rb] : TP (rP2 K ra rb) := ⟨fun e ⟨a, v1, v2, h1, h2, h3, h4⟩ => ⟨a, v1, v2, h1, e _ _ h2, ta.t e h3, tb.t e h4⟩⟩
instance tp_p3 [ta : TP ra] [tb : TP rb] [tc : TP rc] : TP (rP3 K ra rb rc) := ⟨fun e ⟨a, v1, v2, v3, h1, h2, h3, h4, h5⟩ => ⟨a, v1, v2, v3, h1, e _ _ h2, ta.t e h3, tb.t e h4, tc.t e h5⟩⟩
end
/-! ### behind a loan: the old lists go back -/
/-! ### loans -/
section
variable {α β γ : Type} {ra : Rp α} {rc : Rp γ} {σ : L2.St} {F H : Hp} {cs : Cs} {K : PySem.W.Frag} {te ti ta tb : TE} {t : TT} {tz : TS} {D : Ends} {c : Act} {d : α} {m : Option α} {P P2 : Hp → Prop}
/-! ### a list of cells is made -/
/-! ### and changed -/
def TO (te : TE) (σ : L2.St) (F : Hp) (cs : Cs) (p : Addr) : Prop := ∀ c F1 H, Ex F F1 → Cov c F1 cs H → ∀ Q : VK, (∀ F2 H2, Ex F1 F2 → Cov c F2 cs H2 → Q (.ref p) H2) → te σ H Q
variable {tr : TE} {j : Nat} {p : Addr} {ds ds' : List α}
end
end Mw
namespace Mw
end Mw
/-! a list and [None] -/
namespace Mw
open PySem L2
open Evl (Ex)
section
variable {α : Type} {ra : Rp α} {σ : L2.St} {F H : Hp} {cs : Cs} {K : PySem.W.Frag} {ta tb : TE}
end
end Mw
/-! a list of two lists of different kinds -/
namespace Mw
open PySem L2
open Evl (Ex)
section
variable {α β : Type} {ra : Rp α} {rb : Rp β} {σ : L2.St} {F H : Hp} {cs : Cs} {K : PySem.W.Frag} {te ta tb : TE} {tz : TS} {D : Ends} {c : Act} {m : Option (α × β)} {m1 : Option α} {m2 : Option β}
end
section
variable {α β : Type} {ra : Rp α} {rb : Rp β} {σ : L2.St} {F H : Hp} {cs : Cs} {K : PySem.W.Frag} {ta tb : TE} {tz : TS} {D : Ends} {c : Act} {m1 : Option (List α)} {m2 : Option (List β)} {d1 : List α} {d2 : List β}
end
end Mw
/-! xs * n, n changing the followed cell -/
namespace Mw
open PySem L2
open Evl (Ex)
end Mw

set_option maxHeartbeats 2000000
/-! Eb: results that are new: none of their lists stood before the call. -/
namespace Mw
open PySem L2
open Evl (Ex)
/-- what is new in F since H0, and the tuples -/
def onlyNew (H0 F : Hp) : Hp := fun b => match H0 b with
  | none => F b
  | some _ => match F b with
    | some (.tup vs) => some (.tup vs)
    | _ => none
theorem onlyNew_sub (H0 F : Hp) : Ex (onlyNew H0 F) F := fun b o h => by
  unfold onlyNew at h
  split at h
  · exact h
  · split at h
    · rename_i h9
      cases h
      exact h9
    · cases h
theorem onlyNew_new {H0 F : Hp} {b : Addr} (h : H0 b = none) : onlyNew H0 F b = F b := by unfold onlyNew; rw [h]
theorem onlyNew_tup {H0 F : Hp} {b : Addr} {vs : List V} (h : F b = some (.tup vs)) : onlyNew H0 F b = some (.tup vs) := by
  cases q : H0 b with
  | none => rw [onlyNew_new q, h]
  | some u => unfold onlyNew; rw [q, h]
theorem onlyNew_mono {H0 F F' : Hp} (e : Ex F F') : Ex (onlyNew H0 F) (onlyNew H0 F') := fun b o h => by
  cases q : H0 b with
  | none => rw [onlyNew_new q] at h ⊢; exact e _ _ h
  | some u =>
    unfold onlyNew at h
    rw [q] at h
    dsimp only at h
    split at h
    · rename_i h9
      cases h
      exact onlyNew_tup (e _ _ h9)
    · cases h
/-- the value's lists are new since H0 -/
def rNew {α : Type} (H0 : Hp) (ra : Rp α) : Rp α := ⟨fun F v d => ra.r (onlyNew H0 F) v d, fun e h => ra.up (onlyNew_mono e) h⟩
section
variable {α β γ δ ρ : Type} {ra : Rp α} {rb : Rp β} {rr : Rp ρ} {g : Gp δ} {σ : L2.St} {F H : Hp} {cs : Cs} {K : PySem.W.Frag} {te ta tb : TE} {tl : TA} {tz : TS} {D : Ends} {c : Act} {d : α} {m m' : Option α}
theorem nw {H0 : Hp} {v : V} (h : (rNew H0 ra).r F v d) : ra.r F v d := ra.up (onlyNew_sub _ _) h
/-! ### promises -/
/-! ### statements -/
end
end Mw

set_option maxHeartbeats 2000000
/-! Ec: comprehensions that walk a dict (keys: places), the dict a cell, locked meanwhile. -/
namespace Mw
open PySem L2
open Evl (Ex)
section
variable {α β : Type} {ra : Rp α} {rb : Rp β} {σ : L2.St} {F H : Hp} {cs : Cs} {K : PySem.W.Frag} {te ty : TE} {c : Act}
end
end Mw
namespace Mw
open PySem L2
section
variable {te : TE} {tz : TS} {D : Ends} {σ : L2.St} {H : Hp} {i : Nat}
end
end Mw
/-! list(range(n)), tuple(range(n)) -/
namespace Mw
open PySem L2
open Evl (Ex)
section
variable {σ : L2.St} {F : Hp} {cs : Cs} {K : PySem.W.Frag} {ta : TE} {m : Option Int}
end
end Mw
/-! x, y = [..], {} -/
namespace Mw
open PySem L2
open Evl (Ex)
section
variable {α β : Type} {ra : Rp α} {rb : Rp β} {σ : L2.St} {F H : Hp} {cs : Cs} {K : PySem.W.Frag} {ta : TE} {c : Act} {D : Ends} {tz : TS}
end
end Mw

set_option maxHeartbeats 2000000
/-! Ee: sorted() of a list that is made with effects. -/
namespace Mw
open PySem L2
open Evl (Ex)
section
variable {γ : Type} {σ : L2.St} {F : Hp} {cs : γ → Cs} {s : γ} {K : PySem.W.Frag} {te : TE}
end
end Mw

set_option maxHeartbeats 4000000
/-! Rt: tuple * int by any small number: once gives the tuple itself, less than once an empty one. -/
namespace L2
open PySem PySem.Spec PyProof.Rows
section
variable {X : Cx}
end
end L2
namespace Mw
open PySem L2
open Evl (Ex)
end Mw

set_option maxHeartbeats 2000000
/-! Sa: == and != of an own object with values of any kind. -/
namespace PySem.W
open PySem PySem.Spec PySem.Calls PyProof.Rows
section
variable {prog : Program} {w : World} {M : Model} {A : Around} {E : Value → Shared → Prop} {s : Shared} {K : Frag} {x C f : Addr} {ox : Obj} {od : Option Obj}
open Builtin in
end
end PySem.W
namespace Mw
open PySem L2 PySem.Spec PyProof.Rows
open Evl (Ex)
structure NeC (K : PySem.W.Frag) (C : Addr) : Prop where
  at_ : PySem.W.findIn K (.ref C) "__ne__" = some (some (.builtin "object.__ne__"))
  hm : PySem.W.mroIn K C (.type "object") = some true
section
variable {X : Cx} {CX : CXT} {k : Nat} {C g : Addr} {fd : FuncData} {ps : List PySem.Str} {sp : Sp} {dvs : List V} {ds : List Value} {E : XK}
end
section
variable {ω β : Type} {ro : Rp ω} {rb : Rp β} {C : Addr} {E : XK} {K : PySem.W.Frag}
end
end Mw
namespace Hm
open PySem PySem.Spec PyProof.Rows L2 He Mw
end Hm

set_option maxHeartbeats 2000000
/-! Sb: another name for a cell that an index picks; setdefault as a value. -/
namespace Mw
open PySem L2
open Evl (Ex)
section
variable {α β γ : Type} {ra : Rp α} {rb : Rp β} {rc : Rp γ} {σ : L2.St} {F H : Hp} {cs : Cs} {K : PySem.W.Frag} {te ti ta tb ty tv : TE} {tz : TS} {D : Ends} {c : Act} {p : Addr}
variable {cz : γ → Cs} {s s2 : γ}
end
section
variable {α β γ : Type} {ra : Rp α} {rb : Rp β} {σ : L2.St} {F H : Hp} {cs : γ → Cs} {K : PySem.W.Frag} {te : TE} {wi : TI} {g : TG} {tt : TT} {vs : List Nat}
end
end Mw

set_option maxHeartbeats 2000000
/-! Sc: objects that are new (none of their lists stood before); a loan whose result is such an object; a list unpacked into three names. -/
namespace Mw
open PySem L2
open Evl (Ex)
section
variable {α β γ δ ρ ω : Type} {ra : Rp α} {rb : Rp β} {rr : Rp ρ} {ro : Rp ω} {g : Gp δ} {σ : L2.St} {F H : Hp} {cs : Cs} {K : PySem.W.Frag} {te ta tb : TE} {tl : TA} {tz : TS} {D : Ends} {c : Act} {d : α} {m m' : Option α} {C : Addr} {E : XK}
/-- an expression whose value's lists are new since it began -/
def EMW {α : Type} (ra : Rp α) (te : TE) (σ : L2.St) (F : Hp) (cs : Cs) (m : Option α) : Prop := ∀ d, m = some d → ∀ c F1 H, Ex F F1 → Cov c F1 cs H → ∀ Q : VK, (∀ v F2 H2, Ex F1 F2 → Cov c F2 cs H2 → (rNew H ra).r F2 v d → Q v H2) → te σ H Q
theorem EMW.em (h : EMW ra te σ F cs m) : EM ra te σ F cs m := fun d q c F1 H e k Q hQ => h d q c F1 H e k Q fun v F2 H2 e2 k2 r2 => hQ v F2 H2 e2 k2 (nw r2)
/-! what is new in an activation -/
/-! calls whose result is new -/
end
section
variable {α0 α1 α2 δ : Type} {r0 : Rp α0} {r1 : Rp α1} {r2 : Rp α2} {g : Gp δ} {C : Addr} {n0 n1 n2 : Str} {σ : L2.St} {F H : Hp} {cs : Cs} {K : PySem.W.Frag} {te : TE} {tl : TA} {D : Ends} {c : Act} {tz : TS} {E : XK}
end
section
variable {α0 α1 α2 α3 δ : Type} {r0 : Rp α0} {r1 : Rp α1} {r2 : Rp α2} {r3 : Rp α3} {g : Gp δ} {C : Addr} {n0 n1 n2 n3 : Str} {σ : L2.St} {F H : Hp} {cs : Cs} {K : PySem.W.Frag} {te : TE} {tl : TA} {D : Ends} {c : Act} {tz : TS} {E : XK}
end

end Mw

set_option maxHeartbeats 2000000
/-! Sd: a def that changes its first cell and hands back (value, new dict). -/
namespace Mw
open PySem L2
open Evl (Ex)
section
variable {α β γ δ : Type} {rv : Rp α} {rb : Rp β} {g : Gp δ} {σ : L2.St} {F H : Hp} {cs : Cs} {K : PySem.W.Frag} {te : TE} {tl : TA} {tz : TS} {D : Ends} {c : Act} {E : XK} {p q : Addr}
variable {cz : γ → Cs} {A : Type} {get : γ → A} {put : γ → A → γ}
end
end Mw

set_option maxHeartbeats 2000000
/-! Se: a list of lists by a comprehension, each list a cell. -/
namespace Mw
open PySem L2
open Evl (Ex)
section
variable {α β : Type} {ra : Rp α} {rb : Rp β} {σ : L2.St} {F H : Hp} {cs : Cs} {K : PySem.W.Frag} {te : TE} {wi : TI} {g : TG} {vs : List Nat} {tz : TS} {D : Ends} {c : Act}
/-- what each item gives -/
inductive Each (f : β → Option (List α)) : List β → List (List α) → Prop
  | nil : Each f [] []
  | cons {d ds x xs} : f d = some x → Each f ds xs → Each f (d :: ds) (x :: xs)
theorem Each.len {f : β → Option (List α)} : ∀ {ds xs}, Each f ds xs → xs.length = ds.length
  | _, _, .nil => rfl
  | _, _, .cons _ h => by rw [List.length_cons, List.length_cons, h.len]
theorem Each.at_ {f : β → Option (List α)} : ∀ {ds xs}, Each f ds xs → ∀ {i : Nat} (h : i < ds.length) (h2 : i < xs.length), f ds[i] = some xs[i]
  | _, _, .cons q _, 0, _, _ => q
  | _, _, .cons _ t, i + 1, h, h2 => t.at_ (i := i) (by simpa using h) (by simpa using h2)
/-! a list of new lists by a comprehension, behind a loan -/
variable {F1 F2 H1 H2 : Hp} {p : Addr} {x x' : Cp} {m : Option (List α)} {P : Hp → Prop}
end
/-! walks over a list of cells -/
section
variable {α0 α1 α2 α3 δ : Type} {r0 : Rp α0} {r1 : Rp α1} {r2 : Rp α2} {r3 : Rp α3} {g : Gp δ} {tl : TA} {C : Addr} {E : XK} {n0 n1 n2 n3 : PySem.Str} {σ : L2.St} {F H : Hp} {cs : Cs}
end
end Mw

set_option maxHeartbeats 2000000
/-! Tx: texts. -/
namespace Mw
open PySem L2
open Evl (Ex)
section
variable {K : PySem.W.Frag} {σ : L2.St} {F : Hp} {cs : Cs} {to te t : TE} {ts : List TE} {m1 m : Option PySem.Str} {m2 : Option (List PySem.Str)} {ms : List (Option PySem.Str)} {acc : PySem.Str}
/-! f-strings -/
end
end Mw
namespace L2
open PySem PySem.Spec PyProof.Rows
abbrev rMulT : R2 := fun x y H Q => ∃ a i, x = .str a ∧ y = .int i ∧ MulOk a i ∧ Q (.str (Txt.mul a i)) H
theorem op_mul_str {X : Cx} : OpR X (binaryOp .Mult) rMulT := by
  intro pins s σ H x y v u Q I rx ry h
  obtain ⟨a, i, rfl, rfl, hz, q⟩ := h
  obtain ⟨t, rfl⟩ := rx
  obtain ⟨t', rfl⟩ := ry
  exact SB.mul hz (fun t' tk => ⟨.str (Txt.mul a i), H, I.tok _, ⟨_, rfl⟩, q⟩)
end L2
namespace Mw
open PySem L2
open Evl (Ex)
def mulS (a : PySem.Str) (i : Int) : Option PySem.Str := if 0 ≤ i ∧ i ≤ 1000 ∧ a.length ≤ 1000 then some (Txt.mul a i) else none
theorem mul_fit {a : PySem.Str} {i : Int} (h : 0 ≤ i ∧ i ≤ 1000 ∧ a.length ≤ 1000) : MulOk a i := by
  obtain ⟨h1, h2, h3⟩ := h
  refine ⟨?_, fun h4 _ h5 => ?_, fun h4 _ => ?_⟩
  · rw [decide_eq_false (by omega), decide_eq_false (by omega)]
    rfl
  · have : (2 ^ 63 - 1) / i ≥ 1000 := by
      refine Int.le_ediv_of_mul_le (by omega) ?_
      omega
    omega
  · have : a.length * i.toNat ≤ 1000 * 1000 := Nat.mul_le_mul h3 (by omega)
    have sl : sizeLine = 16777216 := rfl
    unfold PySem.Builtin.Str.tooLong
    exact decide_eq_false (by omega)
theorem vo_mulS : VO rMulT rStr rInt rStr mulS := fun c F cs H x y a b d k r1 r2 q Q hQ => by
  cases r1
  cases r2
  unfold mulS at q
  split at q
  · rename_i h
    cases q
    exact ⟨a, b, rfl, rfl, mul_fit h, hQ _ F H (Ex.refl _) k rfl⟩
  · cases q
end Mw

set_option maxHeartbeats 2000000
/-! Sg: a list of pairs of a value and a list that is a cell. -/
namespace Mw
open PySem L2
open Evl (Ex)
section
variable {α β ρ γ : Type} {ra : Rp α} {rb : Rp β} {rr : Rp ρ} {σ : L2.St} {F H : Hp} {cz : γ → Cs} {cs : Cs} {K : PySem.W.Frag} {te ta tb ti tr : TE} {wi : TI} {g : TG} {vs : List Nat} {tz : TS} {D : Ends} {c : Act}
inductive EachS (f : β → γ → Option (List α × γ)) : List β → γ → List (List α) → γ → Prop
  | nil {s} : EachS f [] s [] s
  | cons {d ds x xs s s1 s2} : f d s = some (x, s1) → EachS f ds s1 xs s2 → EachS f (d :: ds) s (x :: xs) s2
/-- the pairs: values, then the addresses of the lists -/
inductive PPs (rr : Rp ρ) (F : Hp) : List V → List Addr → List ρ → Prop
  | nil : PPs rr F [] [] []
  | cons {t p w d vs ps ds} : F t = some (.tup [w, .ref p]) → rr.r F w d → PPs rr F vs ps ds → PPs rr F (.ref t :: vs) (p :: ps) (d :: ds)
theorem PPs.up {F F' : Hp} (e : Ex F F') : ∀ {vs ps} {ds : List ρ}, PPs rr F vs ps ds → PPs rr F' vs ps ds
  | _, _, _, .nil => .nil
  | _, _, _, .cons h1 h2 h3 => .cons (e _ _ h1) (rr.up e h2) (h3.up e)
theorem PPs.snoc {F : Hp} {t p : Addr} {w : V} {d : ρ} (h1 : F t = some (.tup [w, .ref p])) (h2 : rr.r F w d) : ∀ {vs ps} {ds : List ρ}, PPs rr F vs ps ds → PPs rr F (vs ++ [.ref t]) (ps ++ [p]) (ds ++ [d])
  | _, _, _, .nil => .cons h1 h2 .nil
  | _, _, _, .cons a b c => .cons a b (c.snoc h1 h2)
theorem PPs.len {F : Hp} : ∀ {vs ps} {ds : List ρ}, PPs rr F vs ps ds → vs.length = ds.length ∧ ps.length = ds.length
  | _, _, _, .nil => ⟨rfl, rfl⟩
  | _, _, _, .cons _ _ h => ⟨by rw [List.length_cons, List.length_cons, h.len.1], by rw [List.length_cons, List.length_cons, h.len.2]⟩
/-- the list of the pair at an index -/
def rTq : Rp V := ⟨fun F v q => ∃ t w, v = .ref t ∧ F t = some (.tup [w, q]), fun e ⟨t, w, h1, h2⟩ => ⟨t, w, h1, e _ _ h2⟩⟩
theorem PPs.rs {F : Hp} : ∀ {ws ps} {ds : List ρ}, PPs rr F ws ps ds → Rs rTq F ws (ps.map V.ref)
  | _, _, _, .nil => .nil
  | _, _, _, .cons h1 h2 h3 => .cons ⟨_, _, rfl, h1⟩ h3.rs
end
end Mw

set_option maxHeartbeats 2000000
/-! Wn: windows: objects that hold a list of their own, which is a cell; calls of own objects. -/
namespace PySem.W
open PySem PySem.Spec PySem.Calls PyProof.Rows
end PySem.W
namespace L2
open PySem PySem.Spec PySem.Calls PyProof.Rows
section
variable {X : Cx} {CX : CXT} {k i : Nat} {f C : Addr} {fd : FuncData} {ps ks : List Str} {sp : Sp} {E : St → XK} {x : Str} {p pos : Pos} {e : Expr} {es : List Expr} {kws : List Keyword} {t tk : TA} {g : List Value → List Value → List Value} {gV : List V → List V → List V}
end
end L2
namespace Mw
open PySem PySem.Spec PyProof.Rows L2
open Evl (Ex)
/-! ### objects that hold a list which is a cell -/
section
variable {α β γ δ ρ A B : Type} {ra : Rp α} {rb : Rp β} {rr : Rp ρ} {g : Gp δ} {σ : L2.St} {F H : Hp} {cs : Cs} {cz : γ → Cs} {s : γ} {ta : TA} {te tb : TE} {K : PySem.W.Frag} {L : List PySem.Str} {W : WX} {c : Act} {D : Ends} {tz : TS}
/-! ### promises of what changes several cells -/
/-- some of the cells are those that are handed on -/
structure Sel (cs : γ → Cs) (cl : B → Cs) (get : γ → B) (put : γ → B → γ) (rest : γ → Cs) : Prop where
  go : ∀ s, (cs s).Perm (cl (get s) ++ rest s)
  bk : ∀ s b, (cl b ++ rest s).Perm (cs (put s b))
variable {cl : A → B → Cs} {G : A → Gp δ} {get : γ → B} {put : γ → B → γ} {rest : γ → Cs} {q : A}
theorem Sel.post (S : Sel cz (cl q) get put rest) {b : B} {F2 H2 : Hp} (k : Cov c F (cz s) H) (k9 : Cov ⟨H, F, (cl q (get s)).map (·.1)⟩ F2 (cl q b) H2) : Cov c F2 (cz (put s b)) H2 := ((k.perm (S.go s)).back (cs1 := cl q (get s)) k9 k9.old_ps).perm (S.bk s b)
/-- .. where it does not raise -/
def okS (m : Option (Except Er ρ × γ)) : Option (ρ × γ) := m.bind fun r => (okG r.1).map fun x => (x, r.2)
/-! ### making such objects -/
end
end Mw
namespace L2
open PySem PySem.Spec PySem.Calls PyProof.Rows
section
variable {X : Cx} {CX : CXT} {k : Nat} {f C : Addr} {fd : FuncData} {ps ks : List Str} {sp : Sp} {E : St → XK} {m : Str} {pos apos : Pos} {o : Expr} {kws : List Keyword} {ta : TE} {tk : TA} {g : List Value → List Value → List Value} {gV : List V → List V → List V}
end
end L2
namespace Mw
open PySem PySem.Spec PyProof.Rows L2
open Evl (Ex)
open He (ga ma)
section
variable {α β γ δ ρ ω A B : Type} {ra : Rp α} {rb : Rp β} {rr : Rp ρ} {ro : Rp ω} {g : Gp δ} {σ : L2.St} {F H : Hp} {cs : Cs} {cz : γ → Cs} {s : γ} {ta tk : TA} {te tb tr : TE} {K : PySem.W.Frag} {L : List PySem.Str} {mg : PySem.Str → Option Value} {W : WX} {c : Act} {D : Ends} {tz : TS}
variable {cl : A → B → Cs} {get : γ → B} {put : γ → B → γ} {rest : γ → Cs} {q : A} {G' : A → Gp (ω × δ)}
/-! ### methods and calls by name that change cells -/
/-! ### statements -/
/-! ### loans to what may raise: the error must be new -/
def EMXW {α : Type} (K : PySem.W.Frag) (L : List PySem.Str) (W : WX) (ra : Rp α) (te : TE) (σ : L2.St) (F : Hp) (cs : Cs) (m : Option (Except Er α)) : Prop := ∀ d, m = some d → ∀ c F1 H, Ex F F1 → Cov c F1 cs H → ∀ Q : VK,
  (∀ x, d = .ok x → ∀ v F2 H2, Ex F1 F2 → Cov c F2 cs H2 → ra.r F2 v x → Q v H2) → (∀ er, d = .error er → ∀ cls dd F2 H2, Ex F1 F2 → Cov c F2 cs H2 → (∀ a, dd = some a → c.H0 a = none) → rEr K L F2 cls dd er → W cls dd σ H2) → te σ H Q
theorem EMXW.x {m : Option (Except Er α)} (h : EMXW K L W ra te σ F cs m) : EMX K L W ra te σ F cs m := fun d q c F1 H e k Q hQ hE => h d q c F1 H e k Q hQ fun er ee cls dd F2 H2 e2 k2 _ r2 => hE er ee cls dd F2 H2 e2 k2 r2
/-! statements whose error is new -/
structure CalCX (P : Program) (w : World) (K : PySem.W.Frag) (mg : PySem.Str → Option Value) (base : Heap) (k : Nat) (C : Addr) (m : PySem.Str) (ps : List PySem.Str) (sp : Sp) (X : FuncData → Prop) : Prop where
  ex : ∃ f fd, FnOk P w K mg base (L2.CX P w) k f fd ps sp ∧ Meth K C m f ∧ PySem.W.fnIn K f = true ∧ Binds K fd ps [] ∧ X fd
end
end Mw

set_option maxHeartbeats 2000000
/-! Wo: further rules of windows' laws. -/
namespace Mw
open PySem PySem.Spec PyProof.Rows L2
open Evl (Ex)
open He (ga ma)
section
variable {α β γ δ ρ ω A B : Type} {ra : Rp α} {rb : Rp β} {rr : Rp ρ} {ro : Rp ω} {g : Gp δ} {σ : L2.St} {F H : Hp} {cs : Cs} {cz : γ → Cs} {s : γ} {ta tk : TA} {te tb tr : TE} {K : PySem.W.Frag} {L : List PySem.Str} {mg : PySem.Str → Option Value} {W : WX} {c : Act} {D : Ends} {tz : TS}
end
end Mw
namespace Hm
open PySem PySem.Spec PyProof.Rows L2 He
/-! a hook that looks at given addresses; defs with defaults -/
abbrev DefV : Type := DefM × List V
def okV (K : PySem.W.Frag) (d : DefV) : Bool := PySem.W.keepIn K (.ref (d.1.at_ K)) && (match K.lookup (d.1.at_ K) with
  | some ⟨_, _, .func fd, _⟩ => PySem.W.codeIn K fd.code d.1.qual && (dflB K fd.defaults d.2 && kwdB K fd.kwdefaults [])
  | _ => false)
theorem funDV {K : PySem.W.Frag} {d : DefV} (e : fnM K (d.1.at_ K) = d.1.val) (c : okV K d = true) : ∃ fd, FunD K d.1.name d.1.qual d.1.params d.1.body d.1.scope d.2 [] (d.1.at_ K) fd := by
  obtain ⟨kp, c2⟩ := ba c
  unfold fnM at e
  cases q : K.lookup (d.1.at_ K) with
  | none =>
    rw [q] at c2
    cases c2
  | some o =>
    obtain ⟨oc, od, dt, osl⟩ := o
    rw [q] at c2 e
    cases dt with
    | func fd =>
      obtain ⟨n1, n2, n3, n4, n5, n6, n7, n8, n9, n10, n11, n12, n13, n14, n15⟩ := fd
      have e2 : (some (n1, n2, n3, n4, n5, n6, n7, n15) : FnW) = some (d.1.name, d.1.qual, d.1.params, .stmts d.1.body, d.1.scope, mainGlobals, [], builtinsNs) := e
      simp only [Option.some.injEq, Prod.mk.injEq] at e2
      obtain ⟨h1, h2, h3, h4, h5, h6, h7, h8⟩ := e2
      subst h1 h2 h3 h4 h5 h6 h7 h8
      have c3 : (PySem.W.codeIn K n13 d.1.qual && (dflB K n8 d.2 && kwdB K n9 [])) = true := c2
      obtain ⟨k1, k2⟩ := ba c3
      obtain ⟨k3, k4⟩ := ba k2
      exact ⟨_, ⟨oc, od, n8, n9, n10, n11, n12, n13, n14, osl, rfl, q, k1, dflB_ok k3, kwdB_ok k4⟩, kp⟩
    | _ => cases c2
def obsV (fa : List Fc) (fn : List DefV) (K : PySem.W.Frag) : AlD := ((fa.all fun f => f K) && fn.all fun d => okV K d, fn.map fun d => fnM K (d.1.at_ K))
def valV (fn : List DefV) : AlD := (true, fn.map fun d => d.1.val)
def SaysV (fa : List Fc) (fn : List DefV) (K : PySem.W.Frag) : Prop := obsV fa fn K = valV fn
def obsVG (as : List Addr) (fa : List Fc) (fn : List DefV) (g : Addr → Option Obj) : AlD := obsV fa fn (frG g as)
def hookV (as : List Addr) (fa : List Fc) (fn : List DefV) : PySem.W.Hook where
  α := AlD
  obs := fun s => obsVG as fa fn s.heap.get?
  val := fun _ => valV fn
  says := fun _ h => ∃ K : PySem.W.Frag, K.In h ∧ SaysV fa fn K
  of := fun _ _ e => ⟨_, frG_in, e⟩
  keeps := fun _ _ _ ⟨K, hK, c⟩ k => ⟨K, PySem.W.Frag.In.keeps hK k, c⟩
theorem obsVG_eq {as : List Addr} {fa : List Fc} {fn : List DefV} {g : Addr → Option Obj} {s : Shared} (h : ∀ a, g a = s.heap.get? a) : obsVG as fa fn g = (hookV as fa fn).obs s := by
  have e : g = s.heap.get? := funext h
  rw [e] <;> rfl
section
variable {fa : List Fc} {fn : List DefV} {K : PySem.W.Frag}
theorem SaysV.fact (c : SaysV fa fn K) (i : Nat) {f : Fc} (h : fa[i]? = some f := by rfl) : f K = true := by
  have c1 := (ba (show ((fa.all fun f => f K) && fn.all fun d => okV K d) = true from congrArg (fun z : AlD => z.1) c)).1
  exact List.all_eq_true.mp c1 f (List.mem_of_getElem? h)
theorem SaysV.def_ (c : SaysV fa fn K) (i : Nat) {d : DefM} {dv : List V} (h : fn[i]? = some (d, dv) := by rfl) : ∃ fd, FunD K d.name d.qual d.params d.body d.scope dv [] (d.at_ K) fd := by
  have c2 := (ba (show ((fa.all fun f => f K) && fn.all fun d => okV K d) = true from congrArg (fun z : AlD => z.1) c)).2
  have e : (fn.map fun d => fnM K (d.1.at_ K)) = fn.map fun d => d.1.val := congrArg (fun z : AlD => z.2) c
  have e2 : (fn.map fun d => fnM K (d.1.at_ K))[i]? = (fn.map fun d => d.1.val)[i]? := by rw [e]
  rw [List.getElem?_map, List.getElem?_map, h] at e2
  exact funDV (d := (d, dv)) (Option.some.inj e2) (List.all_eq_true.mp c2 (d, dv) (List.mem_of_getElem? h))
end
end Hm

set_option maxHeartbeats 2000000
/-! Wp: a try with several clauses 'except C as e'. -/
namespace L2
open PySem PySem.Spec PyProof.Rows
inductive HdsT (X : Cx) (n : Str) : List ExceptHandler → List (Value × TS) → Prop
  | nil : HdsT X n [] []
  | cons {x : Str} {c : Value} {ts : TS} {b₀ : Stmt} {suite : List Stmt} {np pos' : Pos} {hds : List ExceptHandler} {l : List (Value × TS)} (hc : Names X x c) (hsu : ∀ (a : Addr) (pn : List (Addr × Obj)), PSs (X.suT a pn) (b₀ :: suite) ts) (r : HdsT X n hds l) :
      HdsT X n (.ExceptHandler (some (.Name x np)) (some n) (b₀ :: suite) pos' :: hds) ((c, ts) :: l)
section
variable {X : Cx} {n : Str} {i : Nat} {body : List Stmt} {h₀ : ExceptHandler} {hds : List ExceptHandler} {l : List (Value × TS)} {pos : Pos} {tb : WX → TS} {Wout : WX}
end
end L2
namespace Mw
open PySem PySem.Spec PyProof.Rows L2
open Evl (Ex)
section
variable {α β ρ : Type} {ra : Rp α} {rb : Rp β} {rr : Rp ρ} {σ : L2.St} {F H : Hp} {cs : Cs} {ta tb te : TE} {tt : TT} {tu tw tz : TS} {K : PySem.W.Frag} {L : List PySem.Str} {W : WX} {c : Act} {D : Ends} {rd : R2}
end
end Mw

set_option maxHeartbeats 2000000
/-! Wq: a list inside a value that came new from a call is changed later (late thaw). -/
namespace Mw
open PySem L2
open Evl (Ex)
/-- the frozen heap without one address -/
def hole (F : Hp) (p : Addr) : Hp := fun b => if b = p then none else F b
section
variable {α β γ δ ρ : Type} {ra : Rp α} {rb : Rp β} {σ : L2.St} {F H FS HS : Hp} {cs csS : Cs} {K : PySem.W.Frag} {te ta tb : TE} {tz : TS} {D : Ends} {c : Act} {d : α} {m m' : Option α}
theorem newL {H0 F : Hp} {p : Addr} {vs : List V} (h : onlyNew H0 F p = some (.lst vs)) : H0 p = none ∧ F p = some (.lst vs) := by
  have hn : H0 p = none := by
    cases z : H0 p with
    | none => rfl
    | some u =>
      unfold onlyNew at h
      rw [z] at h
      dsimp only at h
      split at h
      · cases h
      · cases h
  exact ⟨hn, by rw [onlyNew_new hn] at h; exact h⟩
theorem Cov.late {p : Addr} {vs : List V} {ds : List β} [tp : TP rb] (kS : Cov c FS csS HS) (eS : Ex FS F) (h1 : onlyNew HS F p = some (.lst vs)) (h2 : Rs rb (onlyNew HS F) vs ds) (k : Cov c F cs H) : Ex FS (hole F p) ∧ Cov c (hole F p) [(p, cLst rb ds)] H := by
  obtain ⟨hn, hF⟩ := newL h1
  have fp : FS p = none := kS.fnone hn
  have h0 : c.H0 p = none := kS.dom _ hn
  have ex1 : Ex FS (hole F p) := fun b o hb => by
    have : b ≠ p := fun z => by subst z; rw [fp] at hb; cases hb
    show (if b = p then none else F b) = some o
    rw [if_neg this]
    exact eS _ _ hb
  have tk : TupKeep (onlyNew HS F) (hole F p) := fun b ws hb => by
    have := onlyNew_sub _ _ _ _ hb
    have nb : b ≠ p := fun z => by subst z; rw [hF] at this; cases this
    show (if b = p then none else F b) = _
    rw [if_neg nb]
    exact this
  refine ⟨ex1, fun b o hb => ?_, kS.fz.trans ex1, fun y hy => ?_, by simp, k.keep, fun b o hb => ?_, k.dom, k.pt⟩
  · by_cases z : b = p
    · simp [hole, z] at hb
    · simp [hole, z] at hb; exact k.ex _ _ hb
  · rcases List.mem_cons.mp hy with rfl | hy
    · exact ⟨if_pos rfl, .inl h0, .lst vs, k.ex _ _ hF, vs, rfl, h2.tp tk⟩
    · cases hy
  · by_cases z : b = p
    · simp [hole, z] at hb
    · simp [hole, z] at hb; exact k.nw b o hb
/-! ### raising defs whose results are new -/
variable {rr : Rp ρ} {g : Gp δ} {L : List PySem.Str} {W : WX} {ta tk : TA}
def EMXN {α : Type} (K : PySem.W.Frag) (L : List PySem.Str) (W : WX) (ra : Rp α) (te : TE) (σ : L2.St) (F : Hp) (m : Option (Except Er α)) : Prop := ∀ d, m = some d → ∀ F1 H, Ex F F1 → Ex F1 H → ∀ Q : VK,
  (∀ x, d = .ok x → ∀ v F2 H2, Cov ⟨H, F1, []⟩ F2 [] H2 → (rNew H ra).r F2 v x → Q v H2) → (∀ er, d = .error er → ∀ cls dd F2 H2, Cov ⟨H, F1, []⟩ F2 [] H2 → rEr K L F2 cls dd er → W cls dd σ H2) → te σ H Q
theorem EMXN.x {m : Option (Except Er α)} (h : EMXN K L W ra te σ F m) : EMX K L W ra te σ F cs m := fun d q c F1 H e k Q hQ hE => h d q F1 H e k.ex Q (fun x ex v F2 H2 k2 r2 => hQ x ex v F2 H2 k2.fz (k.call0 k2) (nw r2)) fun er ee cls dd F2 H2 k2 r2 => hE er ee cls dd F2 H2 k2.fz (k.call0 k2) r2
/-! ### a late thaw beside cells -/
/-! ### a def that changes its third parameter, given a new dict -/
end
end Mw

set_option maxHeartbeats 2000000
/-! Wr: plans (pairs and fours of tuples within tuples), bit_length. -/
namespace Mw
open PySem L2
open Evl (Ex)
inductive Plan where
  | sh (p : List Int)
  | lk (p : List Int) (a b : Plan)
deriving DecidableEq
def plR (K : PySem.W.Frag) (F : Hp) : V → Plan → Prop
  | v, .sh p => ∃ a v2, v = .ref a ∧ F a = some (.tup [.str "shift", v2]) ∧ (rTup K rInt).r F v2 p
  | v, .lk p x y => ∃ a v2 v3 v4, v = .ref a ∧ F a = some (.tup [.str "look", v2, v3, v4]) ∧ (rTup K rInt).r F v2 p ∧ plR K F v3 x ∧ plR K F v4 y
theorem plR_up {K : PySem.W.Frag} {F F' : Hp} (e : Ex F F') : ∀ {v : V} {d : Plan}, plR K F v d → plR K F' v d
  | _, .sh _, ⟨a, v2, h1, h2, h3⟩ => ⟨a, v2, h1, e _ _ h2, (rTup K rInt).up e h3⟩
  | _, .lk _ _ _, ⟨a, v2, v3, v4, h1, h2, h3, h4, h5⟩ => ⟨a, v2, v3, v4, h1, e _ _ h2, (rTup K rInt).up e h3, plR_up e h4, plR_up e h5⟩
theorem plR_tp {K : PySem.W.Frag} {F F' : Hp} (e : TupKeep F F') : ∀ {v : V} {d : Plan}, plR K F v d → plR K F' v d
  | _, .sh _, ⟨a, v2, h1, h2, h3⟩ => ⟨a, v2, h1, e _ _ h2, (tp_tup (K := K)).t e h3⟩
  | _, .lk _ _ _, ⟨a, v2, v3, v4, h1, h2, h3, h4, h5⟩ => ⟨a, v2, v3, v4, h1, e _ _ h2, (tp_tup (K := K)).t e h3, plR_tp e h4, plR_tp e h5⟩
def rPl (K : PySem.W.Frag) : Rp Plan := ⟨fun F v d => plR K F v d, fun e h => plR_up e h⟩
instance tp_pl {K : PySem.W.Frag} : TP (rPl K) := ⟨fun e h => plR_tp e h⟩
section
variable {σ : L2.St} {F : Hp} {cs : Cs} {K : PySem.W.Frag} {te ta tb tc ti : TE}
end
end Mw

set_option maxHeartbeats 2000000
/-! Ws: plans whose parts may be None. -/
namespace Mw
open PySem L2
open Evl (Ex)
inductive PlanN where
  | no
  | sh (p : List Int)
  | lk (p : List Int) (a b : PlanN)
deriving DecidableEq
def pnR (K : PySem.W.Frag) (F : Hp) : V → PlanN → Prop
  | v, .no => v = .non
  | v, .sh p => ∃ a v2, v = .ref a ∧ F a = some (.tup [.str "shift", v2]) ∧ (rTup K rInt).r F v2 p
  | v, .lk p x y => ∃ a v2 v3 v4, v = .ref a ∧ F a = some (.tup [.str "look", v2, v3, v4]) ∧ (rTup K rInt).r F v2 p ∧ pnR K F v3 x ∧ pnR K F v4 y
theorem pnR_up {K : PySem.W.Frag} {F F' : Hp} (e : Ex F F') : ∀ {v : V} {d : PlanN}, pnR K F v d → pnR K F' v d
  | _, .no, h => h
  | _, .sh _, ⟨a, v2, h1, h2, h3⟩ => ⟨a, v2, h1, e _ _ h2, (rTup K rInt).up e h3⟩
  | _, .lk _ _ _, ⟨a, v2, v3, v4, h1, h2, h3, h4, h5⟩ => ⟨a, v2, v3, v4, h1, e _ _ h2, (rTup K rInt).up e h3, pnR_up e h4, pnR_up e h5⟩
theorem pnR_tp {K : PySem.W.Frag} {F F' : Hp} (e : TupKeep F F') : ∀ {v : V} {d : PlanN}, pnR K F v d → pnR K F' v d
  | _, .no, h => h
  | _, .sh _, ⟨a, v2, h1, h2, h3⟩ => ⟨a, v2, h1, e _ _ h2, (tp_tup (K := K)).t e h3⟩
  | _, .lk _ _ _, ⟨a, v2, v3, v4, h1, h2, h3, h4, h5⟩ => ⟨a, v2, v3, v4, h1, e _ _ h2, (tp_tup (K := K)).t e h3, pnR_tp e h4, pnR_tp e h5⟩
def rPN (K : PySem.W.Frag) : Rp PlanN := ⟨fun F v d => pnR K F v d, fun e h => pnR_up e h⟩
instance tp_pn {K : PySem.W.Frag} : TP (rPN K) := ⟨fun e h => pnR_tp e h⟩
section
variable {σ : L2.St} {F : Hp} {cs : Cs} {K : PySem.W.Frag} {te ta tb tc ti : TE}
end
end Mw

set_option maxHeartbeats 2000000
/-! Wu: super().m(..) within a method; a def whose closure is the cell of its class. -/
namespace L2
open PySem PySem.Spec PySem.Calls PyProof.Rows NdefX ClX
/-- a statement, run in the def's own code -/
structure PSA (X : Cx) (B : List Stmt) (st : Stmt) (t : TS) : Prop where
  run : ∀ (pins : List (Addr × Obj)) (s : Shared) (σ : St) (H : Hp) (D : Ends), Inv X pins σ H s → t D σ H → _root_.PySem.wpAt (model X.prog X.w) X.A (.func B X.env) (exec st X.env) (SP X pins D) X.xe s
structure PSsA (X : Cx) (B : List Stmt) (st : List Stmt) (t : TS) : Prop where
  run : ∀ (pins : List (Addr × Obj)) (s : Shared) (σ : St) (H : Hp) (D : Ends), Inv X pins σ H s → t D σ H → _root_.PySem.wpAt (model X.prog X.w) X.A (.func B X.env) (execs st X.env) (SP X pins D) X.xe s
section
variable {X : Cx} {B : List Stmt} {st : Stmt} {rest : List Stmt} {t u : TS}
/-- what super() wants of the text -/
structure Sup (X : Cx) (C D : Addr) (m : Str) (ar : Arg) (f2 : Addr) : Prop where
  hks : X.env.kindOf "super" = some .globalImplicit
  hkc : X.env.kindOf "__class__" = some .free
  hka : X.env.kindOf ar.arg = some .local
  fn : ∃ (f : Addr) (oc : Value) (od : Option Addr) (osl : Array (Option Value)) (fd : FuncData), X.env.func = some f ∧ X.K.lookup f = some ⟨oc, od, .func fd, osl⟩ ∧ (fd.params.posonlyargs ++ fd.params.args).head? = some ar
  cd : ∃ (cda : Addr) (ccl : Value) (cdd : Option Addr) (ccs : Array (Option Value)) (vs : Array Value) (file : Str) (tf : Tok), X.env.code = .ref cda ∧ X.K.lookup cda = some ⟨ccl, cdd, .fields vs, ccs⟩ ∧ vs[2]? = some (.str file tf) ∧ ((X.prog.main.file : Str) == file) = true
  top : (X.prog.main.scope.names.lookup ("super" : Str)).isSome = false
  cl : ∃ (cc : Addr) (cl : Value) (cld : Option Addr) (csl : Array (Option Value)), X.env.cells.lookup ("__class__" : Str) = some cc ∧ X.K.lookup cc = some ⟨cl, cld, .cell (some (.ref D)), csl⟩
  cls : ∃ cdD, PySem.W.clsIn X.K D = some cdD
  sub : PySem.W.mroIn X.K C (.ref D) = some true
  sup : X.mg "super" = none
  any : PySem.W.nsIn X.K cStatics "thirdparty.any" = some none
  meth : PySem.W.ks_superIn X.K C D m = some (some (.ref f2))
  ty : PySem.W.typeIn X.K (.ref f2) = some (.type "function")
  fi : PySem.W.fnIn X.K f2 = true
  nm : (m == ("__class__" : Str)) = false
variable {CX : CXT} {k : Nat} {C D f2 : Addr} {m : Str} {ar : Arg} {fd2 : FuncData} {ps : List Str} {sp : Sp} {E : St → XK} {p0 p1 apos pos pos2 : Pos} {e : Expr} {es : List Expr} {ta : TA}
end
/-- a def whose closure is the cell of its class -/
theorem fn_ofS {CX : CXT} {P : Program} {w : World} {K : PySem.W.Frag} {mg : Str → Option Value} {base : Heap} {k : Nat} {f : Addr} {name : Str} {params : Arguments} {body : List Stmt} {F : NF} {dV kV doc pm ct oc cl : Value} {an od cld : Option Addr}
    {osl csl : Array (Option Value)} {N ps : List Str} {sp : Sp} {cc D : Addr} (lk : K.lookup f = some ⟨oc, od, .func (PySem.W.fnX name F.qual params body F.scope F.cl dV kV doc pm an (.ref F.c) ct), osl⟩) (hcd : PySem.W.codeIn K (.ref F.c) F.qual = true) (S : NScope N ps ["__class__"] F.scope)
    (hcl : F.cl = [(("__class__" : Str), cc)]) (hcell : K.lookup cc = some ⟨cl, cld, .cell (some (.ref D)), csl⟩)
    (len : ∀ vs H Q E, sp vs H Q E → vs.length = ps.length)
    (hbody : ∀ (A : Around) (outer : List Env) (s : Shared) (H : Hp) (vs : List V) (Q : VK) (E : XK), Room k (A.deeper (envF F f s.heap.objs.size)) → sp vs H Q E →
      ∃ t, PSsA (ncx CX P w K mg base N F f A outer s H E) body body t ∧ t { nx := fun _ H' => Q .non H', rt := Q } (startF N vs [none]) H) :
    FnOk P w K mg base CX (k + 1) f (PySem.W.fnX name F.qual params body F.scope F.cl dV kV doc pm an (.ref F.c) ct) ps sp := by
  refine ⟨len, fun A outer s H args us vs Q E hr e0 hb r hsp => ?_⟩
  have hl := len _ _ _ _ hsp
  have KX : K.In s.heap := e0.mod.kin.keeps fun b o e => (e0.bs b o e).1
  have lim : s.heap.NoLimit := e0.mod.nolimit.keeps fun b o e => (e0.bs b o e).1
  refine codeAny_call_function hr.depth (KX _ _ lk) rfl S.co S.gen rfl (PySem.W.codeRec_of KX hcd) (hb _ _ _ _ ?_)
  refine wpAny_newFunctionEnv S.nocell (fun y hy => ?_) (fun h₁ hns hsb => ⟨lim.fresh _ hsb, ?_⟩) S.kind
  · obtain ⟨n, v⟩ := y
    exact S.par n (List.of_mem_zip hy).1
  have kp : ∀ b o, s.heap.get? b = some o → h₁.get? b = some o := fun b o e => hsb.extBut b o (Nat.ne_of_lt (Heap.lt_size e)) (Heap.get?_push_of_some _ e)
  have C : CellsAt F.cl ["__class__"] [none] s.heap H := by
    have kb : H cc = none ∧ s.heap.IsCell cc (some (.ref D)) := ⟨(e0.bs _ _ (e0.mod.kin _ _ hcell)).2, _, KX _ _ hcell, rfl⟩
    have lk1 : ∀ {y : Str} {c : Addr}, F.cl.lookup y = some c → c = cc ∧ y = "__class__" := fun {y c} e => by
      rw [hcl] at e
      have hm := PySem.mem_of_lookup e
      simp only [List.mem_singleton, Prod.mk.injEq] at hm
      exact ⟨hm.2, hm.1⟩
    refine ⟨rfl, fun y c e => ?_, fun x y c e1 e2 => (lk1 e1).2.trans (lk1 e2).2.symm, fun i y e => ?_⟩
    · obtain ⟨rfl, _⟩ := lk1 e
      exact ⟨kb.1, _, kb.2⟩
    · cases i with
      | zero =>
        obtain rfl : ("__class__" : Str) = y := Option.some.inj e
        exact ⟨cc, by rw [hcl]; simp [List.lookup], fun v z => by cases z⟩
      | succ n => cases e
  have I : Inv (ncx CX P w K mg base N F f A outer s H E) [] (startF N vs [none]) H { s with heap := h₁, toks := s.toks + (ps.zip us).length } := inv_startN S hr.hd e0 hl r C hns kp
  obtain ⟨t, ht, hq⟩ := hbody A outer s H vs Q E (hr.deeper _) hsp
  refine ks_codeAny_funcAt (ks_wpAt_mono (ht.run [] _ _ H _ I hq) (fun fl s' hs => ?_) fun e s' hs => hs)
  have fin : ∀ {σ' : St} {H' : Hp} {v : V} {u : Value}, Inv (ncx CX P w K mg base N F f A outer s H E) [] σ' H' s' → RelV v u → Q v H' → CE outer P w H s Q u s' :=
    fun {σ' H' v u} J rv q => ⟨v, H', J.os, J.bare, J.base, J.hok, rv, q⟩
  cases fl with
  | ret u =>
    obtain ⟨v, σ', H', J, rv, q⟩ := hs
    exact fin J rv q
  | next =>
    obtain ⟨σ', H', J, q⟩ := hs
    exact fin (v := V.non) (u := Value.none) J rfl q
  | brk =>
    obtain ⟨_, _, _, q⟩ := hs
    exact False.elim q
  | cont =>
    obtain ⟨_, _, _, q⟩ := hs
    exact False.elim q
end L2
/-! ### such a def, told by the text -/
namespace L2
open PySem PySem.Spec PySem.Calls PyProof.Rows NdefX ClX
structure SupK (K : PySem.W.Frag) (C D : Addr) (m : Str) (f2 : Addr) : Prop where
  cls : ∃ cdD, PySem.W.clsIn K D = some cdD
  sub : PySem.W.mroIn K C (.ref D) = some true
  any : PySem.W.nsIn K cStatics "thirdparty.any" = some none
  meth : PySem.W.ks_superIn K C D m = some (some (.ref f2))
  ty : PySem.W.typeIn K (.ref f2) = some (.type "function")
  fi : PySem.W.fnIn K f2 = true
structure FunS (K : PySem.W.Frag) (x qual : Str) (params : Arguments) (body : List Stmt) (scope : Scope) (D : Addr) (file : Str) (f : Addr) (fd : FuncData) : Prop where
  ex : ∃ (oc : Value) (od : Option Addr) (dV kV doc pm : Value) (an : Option Addr) (c : Addr) (ct : Value) (osl : Array (Option Value)) (cc : Addr) (cl : Value) (cld : Option Addr) (csl : Array (Option Value)) (ccl : Value) (cdd : Option Addr) (ccs : Array (Option Value)) (vs : Array Value) (tf : Tok),
    fd = PySem.W.fnX x qual params body scope [("__class__", cc)] dV kV doc pm an (.ref c) ct ∧ K.lookup f = some ⟨oc, od, .func fd, osl⟩ ∧ PySem.W.codeIn K (.ref c) qual = true ∧ DflV K dV [] ∧ KwdV K kV [] ∧ K.lookup cc = some ⟨cl, cld, .cell (some (.ref D)), csl⟩ ∧ K.lookup c = some ⟨ccl, cdd, .fields vs, ccs⟩ ∧ vs[2]? = some (.str file tf)
  kp : PySem.W.keepIn K (.ref f) = true
abbrev nfS (x qual : Str) (params : Arguments) (body : List Stmt) (scope : Scope) (cc c : Addr) : NF := ⟨x, qual, params, body, scope, [("__class__", cc)], c⟩
section
variable {P : Program} {w : World} {K : PySem.W.Frag} {mg : Str → Option Value} {base : Heap} {x qual : Str} {params : Arguments} {body : List Stmt} {scope : Scope} {f C D f2 : Addr} {fd : FuncData} {file m : Str} {ar : Arg}
theorem FunS.ok {CX : CXT} {N ps : List Str} {k : Nat} {sp : Sp} (F : FunS K x qual params body scope D file f fd) (S : NScope N ps ["__class__"] scope) (hS : SupK K C D m f2) (hg : mg "super" = none)
    (hP : ((P.main.file : Str) == file) = true ∧ (P.main.scope.names.lookup ("super" : Str)).isSome = false) (nm : (m == ("__class__" : Str)) = false)
    (hp : (params.posonlyargs ++ params.args).head? = some ar) (hks : scope.names.lookup ("super" : Str) = some .globalImplicit) (hkc : scope.names.lookup ("__class__" : Str) = some .free) (hka : scope.names.lookup ar.arg = some .local)
    (len : ∀ vs H Q E, sp vs H Q E → vs.length = ps.length)
    (hbody : ∀ (cc c : Addr) (A : Around) (outer : List Env) (s : Shared) (H : Hp) (vs : List V) (Q : VK) (E : XK), Room k (A.deeper (envF (nfS x qual params body scope cc c) f s.heap.objs.size)) → Sup (ncx CX P w K mg base N (nfS x qual params body scope cc c) f A outer s H E) C D m ar f2 → sp vs H Q E →
      ∃ t, PSsA (ncx CX P w K mg base N (nfS x qual params body scope cc c) f A outer s H E) body body t ∧ t { nx := fun _ H' => Q .non H', rt := Q } (startF N vs [none]) H) : FnOk P w K mg base CX (k + 1) f fd ps sp := by
  obtain ⟨oc, od, dV, kV, doc, pm, an, c, ct, osl, cc, cl, cld, csl, ccl, cdd, ccs, vs, tf, rfl, lk, hcd, _, _, hcc, hcda, hvs⟩ := F.ex
  refine fn_ofS (F := nfS x qual params body scope cc c) lk hcd S rfl hcc len fun A outer s H zs Q E hr hsp => hbody cc c A outer s H zs Q E hr ?_ hsp
  exact ⟨hks, hkc, hka, ⟨f, oc, od, osl, _, rfl, lk, hp⟩, ⟨c, ccl, cdd, ccs, vs, file, tf, rfl, hcda, hvs, hP.1⟩, hP.2, ⟨cc, cl, cld, csl, by show List.lookup ("__class__" : Str) [(("__class__" : Str), cc)] = some cc; simp [List.lookup], hcc⟩, hS.cls, hS.sub, hg, hS.any, hS.meth, hS.ty, hS.fi, nm⟩
end
end L2
namespace Mw
open PySem PySem.Spec PyProof.Rows L2
open Evl (Ex)
section
variable {α β γ δ κ ρ : Type} {ra : Rp α} {rb : Rp β} {rc : Rp κ} {rr : Rp ρ} {g : Gp δ} {σ : L2.St} {F H : Hp} {cs : Cs} {ta tk : TA} {te : TE} {K : PySem.W.Frag} {L : List PySem.Str} {W : WX} {c : Act} {D : Ends} {tz : TS}
end
end Mw
namespace Hm
open PySem PySem.Spec PyProof.Rows L2 He
/-! the hook with defs whose closure is the cell of their class -/
def cellB (K : PySem.W.Frag) (cc D : Addr) : Bool := match K.lookup cc with
  | some ⟨_, _, .cell (some (.ref E)), _⟩ => decide (E = D)
  | _ => false
def fileB (K : PySem.W.Frag) (c : Addr) (file : Str) : Bool := match K.lookup c with
  | some ⟨_, _, .fields vs, _⟩ => (match (vs[2]? : Option Value) with
    | some (.str fl _) => decide (fl = file)
    | _ => false)
  | _ => false
abbrev DefS : Type := DefM × (PySem.W.Frag → Addr) × Str
def fnS (K : PySem.W.Frag) (a : Addr) : FnW := match K.lookup a with
  | some ⟨_, _, .func fd, _⟩ => some (fd.name, fd.qualname, fd.params, fd.body, fd.scope, fd.globals, [], fd.builtins)
  | _ => none
def okS (K : PySem.W.Frag) (d : DefS) : Bool := PySem.W.keepIn K (.ref (d.1.at_ K)) && (match K.lookup (d.1.at_ K) with
  | some ⟨_, _, .func fd, _⟩ => (match fd.closure, fd.code with
    | [(y, cc)], .ref c => decide (y = "__class__") && (PySem.W.codeIn K (.ref c) d.1.qual && (dflB K fd.defaults [] && (kwdB K fd.kwdefaults [] && (cellB K cc (d.2.1 K) && fileB K c d.2.2))))
    | _, _ => false)
  | _ => false)
def obsW (fa : List Fc) (fn : List DefV) (fs : List DefS) (K : PySem.W.Frag) : AlD := ((fa.all fun f => f K) && ((fn.all fun d => okV K d) && fs.all fun d => okS K d), (fn.map fun d => fnM K (d.1.at_ K)) ++ fs.map fun d => fnS K (d.1.at_ K))
def valW (fn : List DefV) (fs : List DefS) : AlD := (true, (fn.map fun d => d.1.val) ++ fs.map fun d => d.1.val)
def SaysW (fa : List Fc) (fn : List DefV) (fs : List DefS) (K : PySem.W.Frag) : Prop := obsW fa fn fs K = valW fn fs
section
variable {fa : List Fc} {fn : List DefV} {fs : List DefS} {K : PySem.W.Frag}
theorem SaysW.ok3 (c : SaysW fa fn fs K) : (fa.all fun f => f K) = true ∧ (fn.all fun d => okV K d) = true ∧ (fs.all fun d => okS K d) = true := by
  obtain ⟨c1, c2⟩ := ba (show ((fa.all fun f => f K) && ((fn.all fun d => okV K d) && fs.all fun d => okS K d)) = true from congrArg (fun z : AlD => z.1) c)
  exact ⟨c1, ba c2⟩
theorem SaysW.list (c : SaysW fa fn fs K) : (fn.map fun d => fnM K (d.1.at_ K)) = (fn.map fun d => d.1.val) ∧ (fs.map fun d => fnS K (d.1.at_ K)) = fs.map fun d => d.1.val := by
  have e : (fn.map fun d => fnM K (d.1.at_ K)) ++ (fs.map fun d => fnS K (d.1.at_ K)) = (fn.map fun d => d.1.val) ++ fs.map fun d => d.1.val := congrArg (fun z : AlD => z.2) c
  exact List.append_inj e (by simp)
theorem SaysW.fact (c : SaysW fa fn fs K) (i : Nat) {f : Fc} (h : fa[i]? = some f := by rfl) : f K = true := List.all_eq_true.mp c.ok3.1 f (List.mem_of_getElem? h)
theorem SaysW.def_ (c : SaysW fa fn fs K) (i : Nat) {d : DefM} {dv : List V} (h : fn[i]? = some (d, dv) := by rfl) : ∃ fd, FunD K d.name d.qual d.params d.body d.scope dv [] (d.at_ K) fd := by
  have e2 : (fn.map fun d => fnM K (d.1.at_ K))[i]? = (fn.map fun d => d.1.val)[i]? := by rw [c.list.1]
  rw [List.getElem?_map, List.getElem?_map, h] at e2
  exact funDV (d := (d, dv)) (Option.some.inj e2) (List.all_eq_true.mp c.ok3.2.1 (d, dv) (List.mem_of_getElem? h))
end
end Hm
namespace L2
open PySem PySem.Spec PySem.Calls PyProof.Rows NdefX ClX
section
variable {K : PySem.W.Frag} {x qual : Str} {params : Arguments} {body : List Stmt} {scope : Scope} {D : Addr} {file : Str} {f : Addr} {fd : FuncData} {ps ks : List Str} {n : Nat} {g : List Value → List Value → List Value} {gV : List V → List V → List V}
theorem FunS.bindsN (F : FunS K x qual params body scope D file f fd)
    (h : ∀ (cl : List (Str × Addr)) (kV doc pm : Value) (an : Option Addr) (cdv ct : Value) (us : List Value), us.length = ps.length → bindArgs (PySem.W.fnX x qual params body scope cl .none kV doc pm an cdv ct) ⟨us, []⟩ = pure (ps.zip us)) : Binds K fd ps [] := by
  obtain ⟨oc, od, dV, kV, doc, pm, an, c, ct, osl, cc, cl, cld, csl, ccl, cdd, ccs, vs, tf, rfl, lk, hcd, hD, _, hcc, hcda, hvs⟩ := F.ex
  rcases hD with ⟨_, rfl⟩ | ⟨e, _⟩
  · exact .all (h _ kV doc pm an _ ct)
  · exact absurd rfl e
end
end L2
namespace Mw
open PySem PySem.Spec PyProof.Rows L2
/-- the __init__ that super() finds -/
structure CalSX (P : Program) (w : World) (K : PySem.W.Frag) (mg : PySem.Str → Option Value) (base : Heap) (k : Nat) (f : Addr) (ps : List PySem.Str) (sp : Sp) (X : FuncData → Prop) : Prop where
  ex : ∃ fd, FnOk P w K mg base (L2.CX P w) k f fd ps sp ∧ Binds K fd ps [] ∧ X fd
section
variable {α β γ δ κ ρ : Type} {ra : Rp α} {rb : Rp β} {rc : Rp κ} {rr : Rp ρ} {g : Gp δ} {σ : L2.St} {F H : Hp} {cs : Cs} {ta tk : TA} {te : TE} {K : PySem.W.Frag} {L : List PySem.Str} {W : WX} {c : Act} {D : Ends} {tz : TS}
end
end Mw
namespace Hm
open PySem PySem.Spec PyProof.Rows L2 He
end Hm

set_option maxHeartbeats 2000000
/-! Wv: (a, e) in [(b, w), ..], e perhaps an exception; the pairs differ at the first place. -/
namespace PySem.SeqAt
open AutoSeq1 (wpAny_loadPart')
open MeetsSeq MeetsSeq2 MeetsSeq3 SeqRoads2
end PySem.SeqAt
namespace L2
open PySem PySem.Spec PyProof.Rows
section
variable {X : Cx}
end
end L2
namespace Mw
open PySem L2 PyProof
open Evl (Ex)
section
variable {K : PySem.W.Frag} {L : List PySem.Str} {α : Type} [DecidableEq α] [Sk α] {ra : Rp α} {σ : L2.St} {F H : Hp} {cs : Cs} {te tb : TE}
end
end Mw
namespace Mw
open PySem L2 PyProof
section
variable {δ ρ ω γ B : Type} {get : γ → B} {put : γ → B → γ} {s : γ}
end
end Mw

set_option maxHeartbeats 2000000
/-! Wx: a value of another kind == an own object: turned round. -/
namespace PySem.W
open PySem.SeqAt MeetsSeq
open AutoSeq1 (wpAny_loadPart')
section
variable {prog : Program} {w : World} {A : Around} {E : Value → Shared → Prop} {s : Shared} {K : Frag} {x C l : Addr} {ox : Obj} {od : Option Obj} {Q : Value → Shared → Prop}
end
end PySem.W
namespace Mw
open PySem L2 PySem.Spec PyProof.Rows
open Evl (Ex)
/-- a value of a built-in kind -/
inductive Aln (H : Hp) : V → Prop
  | non : Aln H .non
  | bl (b : Bool) : Aln H (.bl b)
  | int (i : Int) : Aln H (.int i)
  | str (x : Str) : Aln H (.str x)
  | lst {p : Addr} {xs : List V} (h : H p = some (.lst xs)) : Aln H (.ref p)
  | tup {p : Addr} {xs : List V} (h : H p = some (.tup xs)) : Aln H (.ref p)
  | dic {p : Addr} {kvs : List (List Key × V)} (h : H p = some (.dT kvs)) : Aln H (.ref p)
theorem Aln.up {H H' : Hp} {v : V} (e : Ex H H') (h : Aln H v) : Aln H' v := by
  cases h with
  | non => exact .non
  | bl b => exact .bl b
  | int i => exact .int i
  | str x => exact .str x
  | lst h => exact .lst (e _ _ h)
  | tup h => exact .tup (e _ _ h)
  | dic h => exact .dic (e _ _ h)
def KT : List String := ["NoneType", "bool", "int", "str", "list", "tuple", "dict"]
theorem Aln.ty {K : PySem.W.Frag} {H : Hp} {v : V} (h : Aln H v) : ∃ T ∈ KT, TyX K H v (.type T) := by
  cases h with
  | non => exact ⟨"NoneType", by simp [KT], .base .non⟩
  | bl b => exact ⟨"bool", by simp [KT], .base (.bl _)⟩
  | int i => exact ⟨"int", by simp [KT], .base (.int _)⟩
  | str x => exact ⟨"str", by simp [KT], .base (.str _)⟩
  | lst h => exact ⟨"list", by simp [KT], .base (.lst h)⟩
  | tup h => exact ⟨"tuple", by simp [KT], .base (.tup h)⟩
  | dic h => exact ⟨"dict", by simp [KT], .base (.dT h)⟩
/-- what the text says of the class and the built-in kinds -/
structure RevC (K : PySem.W.Frag) (C : Addr) : Prop where
  no : ∀ T ∈ KT, PySem.W.subIn K (.ref C) (.type T) = some false
  kit : ∀ T ∈ KT, PySem.W.kitOne K (.type T) (.ref C) = some false
section
variable {X : Cx} {CX : CXT} {k : Nat} {C g : Addr} {fd : FuncData} {ps : List PySem.Str} {sp : Sp} {dvs : List V} {ds : List Value} {E : XK}
end
section
variable {ω α β : Type} {ro : Rp ω} {ra : Rp α} {rb : Rp β} {C : Addr} {E : XK} {K : PySem.W.Frag} {σ : L2.St} {F : Hp} {cs : Cs} {te : TE}
end
end Mw
namespace Mw
open PySem L2 PySem.Spec PyProof.Rows
open Evl (Ex)
end Mw
namespace Mw
open PySem L2 PySem.Spec PyProof.Rows
open Evl (Ex)
section
variable {prog : Program} {w : World} {A : Around} {E : Value → Shared → Prop} {s : Shared}
end
section
variable {K : PySem.W.Frag} {σ : L2.St} {F : Hp} {cs : Cs}
end
end Mw
namespace Hm
open PySem PySem.Spec PyProof.Rows L2 He Mw
end Hm

set_option maxHeartbeats 2000000
/-! Wy: a dict of lists that grow: x = d.setdefault(k, []); x.append(..); list(d.values()). -/
namespace Mw
open PySem L2 PySem.Spec PyProof.Rows
open Evl (Ex)
section
variable {β : Type} {rb : Rp β}
end
section
variable {α β γ : Type} {ra : Rp α} {rb : Rp β} {c : Act} {D : Ends} {σ : L2.St} {F H : Hp} {cs : Cs} {K : PySem.W.Frag} {ty te : TE} {p : Addr}
end
end Mw

set_option maxHeartbeats 2000000
/-! Wz: x = [y, f(.., y)]: y a new cell that is lent to f, then told by x. -/
namespace Mw
open PySem L2 PySem.Spec PyProof.Rows
open Evl (Ex)
section
variable {α β γ : Type} {ra : Rp α} {rb : Rp β} {σ : L2.St} {F H : Hp} {cs cs0 : Cs} {cs' : γ → Cs} {ta tb : TE} {tz : TS} {D : Ends} {c : Act}
end
end Mw

set_option maxHeartbeats 2000000
/-! Xa: dicts that rest locked: they are read and walked as values. -/
namespace L2
open PySem PySem.Spec PyProof.Rows
section
variable {X : Cx}
end
end L2
namespace Mw
open PySem L2 PySem.Spec PyProof.Rows
open Evl (Ex)
section
variable {α β γ : Type} {ra : Rp α} {rb : Rp β} {σ : L2.St} {F H : Hp} {cs : Cs} {K : PySem.W.Frag} {te td ty tk : TE} {tz : TS} {D : Ends} {c : Act} {d : α} {m : Option α} {md : Option (List (List Int × β))} {mk : Option (List Int)}
theorem DGet.z {H : Hp} {a b : Addr} {od : Obj} {kvs : List (List L2.Key × V)} {k : List L2.Key} (e : H a = some (.frz od (.dT kvs))) (hb : H b = some (.tup (k.map kV))) : DGet H a (.ref b) (valV kvs k) := .inr ⟨kvs, k, b, .inr ⟨od, e⟩, rfl, hb, rfl⟩
end
end Mw

set_option maxHeartbeats 2000000
namespace L2
open PySem PySem.Spec PyProof.Rows
variable {K : PySem.W.Frag}
/-! `None in pair`, the pair a tuple of two values that may be None -/
section
variable {X : Cx}
end
end L2
namespace Mw
open PySem L2 PySem.Spec PyProof.Rows PyProof RZ PySem.SeqAt
open Evl (Ex)
variable {K : PySem.W.Frag}
section
variable {α γ δ : Type} {ra : Rp α} {rb : Rp γ} {σ : L2.St} {F H : Hp} {cs : Cs} {te ti : TE} {D : Ends} {c : Act} {tz : TS}
end
end Mw

set_option maxHeartbeats 2000000
/-! Xc: lists that were handed to a call, are changed behind it and never read again (junk); errors whose value is new. -/
namespace Mw
open PySem L2
open Evl (Ex)
open He (ga ma)
section
variable {α β γ δ ρ ω : Type} {ra : Rp α} {rb : Rp β} {rr : Rp ρ} {ro : Rp ω} {g : Gp δ} {σ : L2.St} {F H FS HS : Hp} {cs csS : Cs} {K : PySem.W.Frag} {L : List PySem.Str} {mg : PySem.Str → Option Value} {W : WX} {te ti tr : TE} {ta : TA} {tz : TS} {D : Ends} {c : Act} {d : α} {m : Option α}
/-! ### lists of new lists -/
/-! ### errors whose value is new -/
/-! ### junk -/
open Classical in
end
end Mw

set_option maxHeartbeats 2000000
/-! Xd: windows whose list is set back: an except suite that ends in a bare raise; objects that are taken out of the frozen part. -/
namespace L2
open PySem PySem.Spec PyProof.Rows
section
variable {X : Cx} {pins : List (Addr × Obj)} {σ : St} {H : Hp} {s : Shared}
end
section
variable {X : Cx} {x : Str} {c : Value} {body : List Stmt} {b₀ : Stmt} {np pos pos' pr : Pos} {tb : WX → TS} {ts : TS} {Wout : WX}
end
end L2
namespace Mw
open PySem PySem.Spec PyProof.Rows L2
open Evl (Ex)
open He (ga ma)
/-! ### objects taken out of the frozen part -/
/-- the same but at p -/
def ExP (p : Addr) (F F' : Hp) : Prop := ∀ b o, b ≠ p → F b = some o → F' b = some o
theorem ExP.refl {p : Addr} {F : Hp} : ExP p F F := fun _ _ _ h => h
theorem ExP.of {p : Addr} {F F' : Hp} (e : Ex F F') : ExP p F F' := fun _ _ _ h => e _ _ h
theorem ExP.trans {p : Addr} {F F1 F2 : Hp} (a : ExP p F F1) (b : ExP p F1 F2) : ExP p F F2 := fun x o n h => b x o n (a x o n h)
theorem hole_ne {F : Hp} {p b : Addr} (h : b ≠ p) : hole F p b = F b := by unfold hole; rw [if_neg h]
theorem ExP.hole {p : Addr} {F : Hp} : ExP p F (hole F p) := fun b o n h => by rw [hole_ne n]; exact h
theorem ExP.ex {p : Addr} {F F' : Hp} (e : ExP p F F') (h : F p = none) : Ex F F' := fun b o hb => e b o (fun z => by subst z; rw [h] at hb; cases hb) hb
/-- p is an own object -/
def InsA (F : Hp) (p : Addr) : Prop := ∃ C dx fs, F p = some (.ins C dx fs)
/-- what holds no own object -/
class NI {α : Type} (ra : Rp α) : Prop where
  t : ∀ {p : Addr} {F F' : Hp} {v : V} {d : α}, InsA F p → ExP p F F' → ra.r F v d → ra.r F' v d
section
variable {α β γ : Type} {ra : Rp α} {rb : Rp β} {rc : Rp γ} {K : PySem.W.Frag} {L : List PySem.Str}
theorem ins_ne {F : Hp} {p b : Addr} {o : HO} (h : InsA F p) (hb : F b = some o) (ho : ∀ C dx fs, o ≠ .ins C dx fs) : b ≠ p := fun z => by
  obtain ⟨C, dx, fs, e⟩ := h
  subst z
  rw [hb] at e
  exact ho _ _ _ (Option.some.inj e)
instance ni_tp [tp : TP ra] : NI ra := ⟨fun h e r => tp.t (fun a vs ha => e a _ (ins_ne h ha fun _ _ _ z => by cases z) ha) r⟩
theorem Rs.ni [ni : NI ra] {p : Addr} {F F' : Hp} (h : InsA F p) (e : ExP p F F') : ∀ {vs : List V} {ds : List α}, Rs ra F vs ds → Rs ra F' vs ds
  | _, _, .nil => .nil
  | _, _, .cons r t => .cons (ni.t h e r) (Rs.ni h e t)
instance ni_lst [ni : NI ra] : NI (rLst ra) := ⟨fun h e ⟨a, vs, h1, h2, h3⟩ => ⟨a, vs, h1, e _ _ (ins_ne h h2 fun _ _ _ z => by cases z) h2, Rs.ni h e h3⟩⟩
instance ni_opt [ni : NI ra] : NI (rOpt ra) := ⟨fun {_ _ _ _ d} h e r => match d, r with
  | none, r => r
  | some _, r => ⟨r.1, ni.t h e r.2⟩⟩
instance ni_p2 [na : NI ra] [nb : NI rb] : NI (rP2 K ra rb) := ⟨fun h e ⟨a, v1, v2, h1, h2, h3, h4⟩ => ⟨a, v1, v2, h1, e _ _ (ins_ne h h2 fun _ _ _ z => by cases z) h2, na.t h e h3, nb.t h e h4⟩⟩
instance ni_pay : NI (rPay K) := ⟨fun {_ _ _ _ d} h e r => match d, r with
  | .int _, r => r
  | .tup l, r => NI.t (ra := rTup K rInt) (d := l) h e r
  | .str _, r => r
  | .rows l, r => NI.t (ra := rLst (rLst rInt)) (d := l) h e r⟩
instance ni_exc : NI (rExc K L) := ⟨fun h e ⟨h0, a, dd, fs, pv, h1, h2, h3, h4, h5⟩ => ⟨h0, a, dd, fs, pv, h1, e _ _ (ins_ne h h2 fun _ _ _ z => by unfold exT at z; cases z) h2, e _ _ (ins_ne h h3 fun _ _ _ z => by cases z) h3, h4, NI.t h e h5⟩⟩
theorem rEr.ni {p : Addr} {F F' : Hp} {cls : Value} {d : Option Addr} {er : Er} (h : InsA F p) (e : ExP p F F') (r : rEr K L F cls d er) : rEr K L F' cls d er := by
  obtain ⟨h0, dd, fs, pv, h1, h2, h3, h4, h5⟩ := r
  exact ⟨h0, dd, fs, pv, h1, h2, e _ _ (ins_ne h h3 fun _ _ _ z => by cases z) h3, h4, NI.t h e h5⟩
/-- how a frozen object with a list of its own and the object as a cell go together -/
structure WinR (C : Addr) {ω : Type} (ro : Addr → Rp ω) (cw : Addr → ω → Cp) : Prop where
  to : ∀ {q : Addr} {F : Hp} {v : V} {w : ω}, (ro q).r F v w → ∃ p dx fs, v = .ref p ∧ F p = some (.ins C dx fs) ∧ (cw q w).p (hole F p) (.ins C dx fs)
  fro : ∀ {q : Addr} {F F' : Hp} {p : Addr} {o : HO} {w : ω}, (cw q w).p F o → Ex F F' → F' p = some o → (ro q).r F' (.ref p) w
  ins : ∀ {q : Addr} {F : Hp} {o : HO} {w : ω}, (cw q w).p F o → ∃ dx fs, o = .ins C dx fs
end
section
variable {c : Act} {F H : Hp} {cs : Cs} {p : Addr} {x : Cp} {o : HO}
end
section
variable {α β γ δ ρ ω : Type} {ra : Rp α} {rb : Rp β} {rr : Rp ρ} {g : Gp δ} {σ : L2.St} {F H : Hp} {cs : Cs} {ta : TA} {te tb : TE} {K : PySem.W.Frag} {L : List PySem.Str} {W : WX} {c : Act} {D : Ends} {tz : TS} {C : Addr} {ro : Addr → Rp ω} {cw : Addr → ω → Cp}
/-! ### promises of what may give the object another list -/
/-! ### such objects as values, two at once -/
end
/-! ### for, a turn that may leave, the cells told by the invariant -/
section
variable {α γ ρ : Type} {ra : Rp α} {σ : L2.St} {F H : Hp} {cs : Cs} {wi : TI} {g : TG} {tb : TS} {D : Ends} {c : Act} {m : Option (List α)} {ds : List α}
end
end Mw

set_option maxHeartbeats 2000000
/-! Xe: zip of a tuple and a list. -/
namespace Mw
open PySem PySem.Spec PyProof.Rows L2
open Evl (Ex)
section
variable {α β γ : Type} {ra : Rp α} {rb : Rp β} {rc : Rp γ} {σ : L2.St} {F H : Hp} {cs : Cs} {K : PySem.W.Frag} {ta tb : TE}
end
section
variable {α β γ δ ρ ω : Type} {rb : Rp β} {rr : Rp ρ} {g : Gp δ} {σ : L2.St} {F H : Hp} {cs : Cs} {ta : TA} {te : TE} {ro : Addr → Rp ω}
end
section
variable {α β γ δ ρ ω : Type} {ra : Rp α} {rb : Rp β} {rr : Rp ρ} {g : Gp δ} {σ : L2.St} {F H : Hp} {cs : Cs} {ta : TA} {te tb : TE} {K : PySem.W.Frag} {L : List PySem.Str} {W : WX} {c : Act} {D : Ends} {tz : TS} {C : Addr} {ro : Addr → Rp ω} {cw : Addr → ω → Cp}
theorem rd_ni {p a : Addr} {F F' : Hp} {o : HO} (h : InsA F p) (e : ExP p F F') (ho : ∀ C dx fs, o ≠ .ins C dx fs) (r : Rd F a o) : Rd F' a o := by
  rcases r with r | ⟨u, r⟩
  · exact .inl (e _ _ (ins_ne h r ho) r)
  · exact .inr ⟨u, e _ _ (ins_ne h r fun _ _ _ z => by cases z) r⟩
instance ni_lsW [na : NI ra] : NI (rLsW K ra) := ⟨fun h e ⟨a, vs, h1, h2, h3⟩ => ⟨a, vs, h1, h2.imp (fun z => rd_ni h e (fun _ _ _ z => by cases z) z) id, Rs.ni h e h3⟩⟩
end
end Mw

set_option maxHeartbeats 2000000
/-! Ya: texts that are read: len, items, parts, split, startswith, one sign in a text, int of a text, a walk over the signs. -/
namespace Mw
open PySem L2
open Evl (Ex)
section
variable {K : PySem.W.Frag} {σ : L2.St} {F : Hp} {cs : Cs} {to te t ta : TE} {m1 m2 m : Option PySem.Str}
/-! a walk over the signs -/
end
/-! places: a >= b -/
/-! how often a text stands in a list of texts -/
/-! a list whose items are values or None, none of them None -/
/-! the value of a call that may raise, read as one of two kinds -/
/-! one of two kinds, told as data -/
end Mw

set_option maxHeartbeats 2000000
/-! Yb: a try that ends in `raise .. from None`; slices of texts with effects; values or None of several kinds. -/
namespace Mw
open PySem L2
open Evl (Ex)
section
variable {α β γ : Type} {ra : Rp α} {rb : Rp β}
variable {σ : L2.St} {F : Hp} {cs : γ → Cs} {s : γ} {ta : TE} {tl th : L2.TO}
end
end Mw
namespace L2
open PySem PySem.Spec PyProof.Rows
section
variable {X : Cx} {o : Expr} {lo hi : Option Expr} {to : TE} {tl th : TO} {pos p2 : Pos}
end
end L2
namespace Mw
open PySem L2
open Evl (Ex)
section
variable {α : Type} {ra : Rp α} {σ : L2.St} {F H : Hp} {cs : Cs} {te t1 t2 : TE} {tz : TS} {D : Ends} {c : Act}
end
end Mw
namespace Mw
open PySem L2
open Evl (Ex)
end Mw

set_option maxHeartbeats 2000000
/-! Yc: `try: return e` whose clause names one class or a tuple of two and whose suite is `raise C(x) from None`; the errors of the body come with no context (L2N). -/
namespace L2
open PySem PySem.Spec PyProof.Rows L2H HotX
section
variable {P : Program} {w : World} {K : PySem.W.Frag} {mg : Str → Option Value} {base : Heap} {x qual : Str} {params : Arguments} {body : List Stmt} {scope : Scope} {dvs : List V} {kws : List (Str × V)} {f : Addr} {fd : FuncData}
end
section
variable {X : Cx} {he : Expr} {body suite : List Stmt} {b₀ : Stmt} {pos pos' : Pos} {tb : WX → TS} {cl : List Value} {ts : TS} {Wout : WX}
end
end L2
namespace L2
open PySem PySem.Spec PyProof.Rows
section
variable {X : Cx} {e : Expr} {es : List Expr} {ta : TA}
end
end L2
namespace Mw
open PySem L2
open Evl (Ex)
open He (ga ma)
structure CalIXN (P : Program) (w : World) (K : PySem.W.Frag) (mg : PySem.Str → Option Value) (base : Heap) (k : Nat) (C : Addr) (ps : List PySem.Str) (sp : Sp) (X : FuncData → Prop) : Prop where
  ex : ∃ f fd, FnOk P w K mg base (L2N.CX P w) k f fd ps sp ∧ L2.Mk K C f ∧ Binds K fd ps [] ∧ X fd
/-- the errors' own __init__ while an exception is handled -/
structure CalEH (P : Program) (w : World) (K : PySem.W.Frag) (mg : PySem.Str → Option Value) (base : Heap) (L : List PySem.Str) : Prop where
  ex : ∃ fd, L2H.FnH P w K mg base CX0 1 (eiA K) fd ["self", "value"] (spEI K L) ∧ Binds K fd ["self", "value"] []
section
variable {K : PySem.W.Frag} {mg : PySem.Str → Option Value} {L : List PySem.Str} {F : Hp} {cls : Value} {dd : Option Addr} {er : Er} {C D : PySem.Str}
end
end Mw

set_option maxHeartbeats 400000
/-! Yd: errors as values (C(e), C(value=e)), data with dicts, repr of such. -/
namespace PySem
namespace HandSPX
open PySem.Spec PyProof.Rows
section
variable {M : Model} {A : Around} {E : Value → Shared → Prop} {h : Heap} {g : Array GenState} {d : Drawn} {t : Nat} {os : OsState}
variable {nm q : Str} {C N : Addr} {bs bm bmB : List Value} {hdct : Bool} {sn : List Str} {sub : List Value} {ab : Bool} {col : Option Bool} {dd : Option Addr} {k0 k1 k2 k3 k5 : Option Value} {B newId initId : String}
theorem check_new_kw (F : ExcBaseFacts B newId initId bmB) (hT : ∀ X : String, bm.contains (.type X) = bmB.contains (.type X)) {rest : List Value} {kw : List (Str × Value)} {Q : Unit → Shared → Prop}
    (hC : h.get? C = some (excClassObj nm q C N bs bm hdct sn sub ab col dd k0 k1 k2 k3 k5 newId)) (hq : Q () ⟨h, g, d, t, os⟩) : wpAny M A (checkBuiltinCall newId ⟨.ref C :: rest, kw⟩) Q E ⟨h, g, d, t, os⟩ := by
  have hcont : (Value.ref C :: bm).contains (.type B) = true := by rw [List.contains_cons, hT, F.hasB, Bool.or_true]
  have hstar := F.noStar
  simp only [checkBuiltinCall, F.newKind, F.newSplit, F.newRow]
  repeat (first | refine wpAny_loadPart_at hC ?_ | (refine wpAny_isSubtype_exc hC ?_; rw [hcont]) | refine wpAny_staticBase_exc hC ?_ | refine wpAny_madeBy_exc hC ?_ | simp only [bne_self_eq_false, Bool.false_eq_true, if_false] | wp_step)
  exact hq
end
section
variable {prog : Program} {w : World} {A : Around} {E : Value → Shared → Prop} {R : Result → Shared → Prop} {h : Heap} {g : Array GenState} {d : Drawn} {t : Nat} {os : OsState}
variable {nm q : Str} {C N : Addr} {bs bm bmB : List Value} {hdct : Bool} {sn : List Str} {sub : List Value} {ab : Bool} {col : Option Bool} {dd : Option Addr} {k0 k1 k2 k3 k5 : Option Value} {B newId initId : String}
theorem new_kw (F : ExcBaseFacts B newId initId bmB) (hT : ∀ X : String, bm.contains (.type X) = bmB.contains (.type X)) {rest : List Value} {kw : List (Str × Value)}
    (hC : h.get? C = some (excClassObj nm q C N bs bm hdct sn sub ab col dd k0 k1 k2 k3 k5 newId))
    (hq : R (.ok (.ret (.ref (h.objs.size + 1)))) ⟨(h.push { cls := .type "tuple", data := .seq rest.toArray }).push
      { cls := .ref C, data := .fields #[.ref h.objs.size, .none, .none, .none, .bool false, .none] }, g, d, t, os⟩) (hrest : rest.length ≤ sizeLine) :
    codeAny (model prog w) A (.builtin newId ⟨.ref C :: rest, kw⟩) R ⟨h, g, d, t, os⟩ := by
  have hends := F.ends
  have hcB : (Value.ref C :: bm).contains (.type B) = true := by rw [List.contains_cons, hT, F.hasB, Bool.or_true]
  have hcA : (Value.ref C :: bm).contains (.type "AttributeError") = false := by rw [List.contains_cons, hT, F.noAttr]; rfl
  have hcN : (Value.ref C :: bm).contains (.type "NameError") = false := by rw [List.contains_cons, hT, F.noName]; rfl
  refine codeAny_builtinAt F.entry ?_
  unfold Builtin.«BaseException.__new__»
  refine wpAt_bind ?_
  show wpAt _ _ _ (stack >>= _) _ _ _
  refine wpAt_bind (wpAt_stack fun p below => wpAt_of_wpAny ?_)
  wp_walk
  refine wpAt_of_wpAny ?_
  rw [F.owner]
  repeat (first | with_reducible refine wpAny_madeHere_exc F.canon hC ?_ | with_reducible refine wpAny_loadPart_at hC ?_ | (with_reducible refine wpAny_isSubtype_exc hC ?_; first | rw [hcB] | rw [hcA] | rw [hcN]) | wp_step)
  show R _ _
  rw [Heap.size_push]
  exact hq
theorem type_call_kw (F : ExcBaseFacts B newId initId bmB) (hT : ∀ X : String, bm.contains (.type X) = bmB.contains (.type X)) {rest : List Value} {kw : List (Str × Value)} {fI : Addr} {Q : Fin → Shared → Prop}
    (hC : h.get? C = some (excClassObj nm q C N bs bm hdct sn sub ab col dd k0 k1 k2 k3 k5 newId))
    (hi : W.Looks (model prog w) h (typeLookup (.ref C) "__init__") (some (.ref fI))) (hb : ∀ self, W.Looks (model prog w) h (bindSpecial (.ref fI) self) (.ref fI, [self])) (hrest : rest.length ≤ sizeLine)
    (hq : codeAny (model prog w) A (.call (.ref fI) ⟨.ref (h.objs.size + 1) :: rest, kw⟩)
      (fun r s' => match r with | .ok (.ret v) => v = .none ∧ Q (.done (.ret (.ref (h.objs.size + 1)))) s' | .ok _ => False | .error e => E e s')
      ⟨(h.push (W.kdv_tup rest)).push (excO C h.objs.size), g, d, t, os⟩) :
    wpAny (model prog w) A (Builtin.«type.__call__» ⟨.ref C :: rest, kw⟩) Q E ⟨h, g, d, t, os⟩ := by
  repeat (first | with_reducible refine wpAny_loadPart_at hC ?_ | with_reducible refine wpAny_madeBy_exc hC ?_ | wp_step)
  refine codeAny_call_builtin_code (Code.quiet_builtin _ F.quiet) (check_new_kw F hT hC ?_)
  refine new_kw F hT hC ?_ hrest
  show wpAny _ _ _ _ _ _
  have k : ∀ b o, h.get? b = some o → ((h.push (W.kdv_tup rest)).push (excO C h.objs.size)).get? b = some o := fun b o e => Heap.get?_push_of_some _ (Heap.get?_push_of_some _ e)
  have hC₁ := k _ _ hC
  have hget : ((h.push (W.kdv_tup rest)).push (excO C h.objs.size)).get? (h.objs.size + 1) = some (excO C h.objs.size) := by heap_get
  have hcC : (Value.ref C :: bm).contains (.ref C) = true := by simp
  have i1 := hi.keeps k
  have b1 := (hb (.ref (h.objs.size + 1))).keeps k
  unfold isInstance
  repeat (first | with_reducible refine wpAny_loadPart_at hget ?_ | (with_reducible refine wpAny_isSubtype_exc hC₁ ?_; rw [hcC]) | wp_step)
  show wpAny _ _ (typeLookup (.ref C) _) _ _ _
  refine i1.at ?_
  refine wpAny_holding (wpAny_bind (b1.at ?_))
  refine wpAny_bind (wpAny_call (codeAny_mono hq fun r s' z => ?_))
  rcases r with e | (v | _ | _ | _) <;> first | exact z | exact z.elim | skip
  obtain ⟨rfl, z⟩ := z
  first
    | exact wpAny_pure (wpAny_pure z)
    | (wp_walk; exact z)
theorem check_tc_kw {M : Model} {rest : List Value} {kw : List (Str × Value)} {Q : Unit → Shared → Prop} (hC : h.get? C = some (excClassObj nm q C N bs bm hdct sn sub ab col dd k0 k1 k2 k3 k5 newId))
    (hq : Q () ⟨h, g, d, t, os⟩) : wpAny M A (checkBuiltinCall "type.__call__" ⟨.ref C :: rest, kw⟩) Q E ⟨h, g, d, t, os⟩ := by
  have f3 := tc_sub
  have hT : (⟨h, g, d, t, os⟩ : Shared).TypeIs (.ref C) "type" := ⟨_, hC, rfl⟩
  simp only [checkBuiltinCall, tc_kind, tc_split]
  repeat (any_goals (first | assumption | with_reducible refine wpAny_loadPart_at hC ?_ | with_reducible refine wpAny_onRaise ?_ | with_reducible refine wpAny_map ?_ | wp_step))
theorem call_kw (F : ExcBaseFacts B newId initId bmB) (hT : ∀ X : String, bm.contains (.type X) = bmB.contains (.type X)) {rest : List Value} {kw : List (Str × Value)} {fI : Addr}
    (hC : h.get? C = some (excClassObj nm q C N bs bm hdct sn sub ab col dd k0 k1 k2 k3 k5 newId))
    (hi : W.Looks (model prog w) h (typeLookup (.ref C) "__init__") (some (.ref fI))) (hb : ∀ self, W.Looks (model prog w) h (bindSpecial (.ref fI) self) (.ref fI, [self])) (hrest : rest.length ≤ sizeLine)
    (hq : codeAny (model prog w) (A.under (.builtin "type.__call__" ⟨.ref C :: rest, kw⟩)) (.call (.ref fI) ⟨.ref (h.objs.size + 1) :: rest, kw⟩) (W.InitBack (h.objs.size + 1) R)
      ⟨(h.push (W.kdv_tup rest)).push (excO C h.objs.size), g, d, t, os⟩) :
    codeAny (model prog w) A (.call (.ref C) ⟨rest, kw⟩) R ⟨h, g, d, t, os⟩ := by
  have f1 := tc_lookup
  have f2 := tc_bind (.ref C)
  have hTy : (⟨h, g, d, t, os⟩ : Shared).TypeIs (.ref C) "type" := ⟨_, hC, rfl⟩
  refine codeAny_of_tree ?_
  show wpAny _ _ (callAny (.ref C) _) _ _ _
  repeat (any_goals (first | assumption | with_reducible refine wpAny_loadPart_at hC ?_ | wp_step))
  refine ⟨rfl, ?_⟩
  refine codeAny_call_builtin_at (Code.quiet_builtin _ (by decide +kernel)) entry_typeCall (check_tc_kw hC (type_call_kw F hT hC hi hb hrest ?_))
  refine codeAny_mono hq fun r s' z => ?_
  rcases r with e | (v | _ | _ | _) <;> exact z
end
end HandSPX
end PySem
namespace L2
open PySem PySem.Spec PyProof.Rows
section
variable {X : Cx} {e : Expr} {te : TE} {pins : List (Addr × Obj)} {σ : St} {H1 : Hp}
/-- C(e) or C(k = e): the error stands -/
def tOx (C : Addr) (sp : Sp) (te : TE) : TE := fun σ H Q => te σ H fun y H1 => ∀ a, H1 a = none → sp [.ref a, y] (upd H1 a (exo a C none))
  (fun v H2 => v = .non ∧ ∃ (d : Addr) (fs : List (Str × V)), H2 a = some (exo a C (some d)) ∧ H2 d = some (exd d fs) ∧ Q (.ref a) (upd (upd H2 d (.xd fs)) a (exT a (.ref C) (some d)))) (fun _ _ _ => False)
theorem exd_frz {e : Addr} {fs : List (Str × V)} {o : Obj} {u : HO} : exd e fs ≠ .frz o u := fun z => by
  have z' : HO.ext _ = HO.frz o u := z
  cases z'
theorem exd_tbl {e : Addr} {fs : List (Str × V)} {ps : Array Value} : exd e fs ≠ .tbl ps := fun z => by
  have z' : HO.ext _ = HO.tbl ps := z
  cases z'
/-- what is wanted of the one argument -/
def OxQ (C : Addr) (sp : Sp) (Q : VK) : List V → Hp → Prop := fun vs H1 => match vs with
  | [y] => ∀ a, H1 a = none → sp [.ref a, y] (upd H1 a (exo a C none)) (fun v H2 => v = .non ∧ ∃ (d : Addr) (fs : List (Str × V)), H2 a = some (exo a C (some d)) ∧ H2 d = some (exd d fs) ∧ Q (.ref a) (upd (upd H2 d (.xd fs)) a (exT a (.ref C) (some d)))) (fun _ _ _ => False)
  | _ => False
/-- the error that was made is told as one that stands -/
theorem ox_end {hp2 h2 : Heap} {g g2 : Array GenState} {dr d2 : Drawn} {t1 t2 : Nat} {os os2 : OsState} {a C d : Addr} {fs : List (Str × V)} {H2 : Hp} (I2 : Inv X pins σ (upd H1 a (exo a C none)) ⟨hp2, g, dr, t1, os⟩)
    (un : Un (frs X.stack) [] (upd H1 a (exo a C none)) H2 hp2 h2) (hok : HOk X.prog X.w H2 h2) (ho : os2 = os) (hb : AllBare g2) (ea : H2 a = some (exo a C (some d))) (ed : H2 d = some (exd d fs)) :
    Inv X pins σ (upd (upd H2 d (.xd fs)) a (exT a (.ref C) (some d))) ⟨h2, g2, d2, t2, os2⟩ := by
  obtain ⟨t0, hoe⟩ := exo_at hok ea
  obtain ⟨mA, hns, rel⟩ := exd_at hok ed
  have hda : d ≠ a := fun z => by
    obtain ⟨o, es, ep, e1, e2, _⟩ := hns
    rw [z, hoe] at e1
    have z2 := Option.some.inj e1
    subst z2
    cases e2
  have U : Un (frs X.stack) [] (upd H1 a (exo a C none)) (upd (upd H2 d (.xd fs)) a (exT a (.ref C) (some d))) hp2 h2 := {
    keep := un.keep
    slot := un.slot
    free := fun b o z n hx => by
      have y := un.free b o z n hx
      rw [upd_ne (fun e => by rw [e, ea] at y; cases y), upd_ne (fun e => by rw [e, ed] at y; cases y)]
      exact y
    there := un.there
    tups := fun b xs z => by
      have y := un.tups b xs z
      rw [upd_ne (at_ne ea y exo_tup), upd_ne (at_ne ed y exd_tup)]
      exact y
    frzs := fun b o v z => by
      have y := un.frzs b o v z
      rw [upd_ne (at_ne ea y exo_frz), upd_ne (at_ne ed y exd_frz)]
      exact y
    tbls := fun b ps z => by
      obtain ⟨m, y⟩ := un.tbls b ps z
      refine ⟨m, ?_⟩
      rw [upd_ne (at_ne ea y exo_tbl), upd_ne (at_ne ed y exd_tbl)]
      exact y }
  have hok3 : HOk X.prog X.w (upd (upd H2 d (.xd fs)) a (exT a (.ref C) (some d))) h2 := fun b o z => by
    by_cases hba : b = a
    · subst hba
      rw [upd_same] at z
      cases z
      exact exT_ok hoe ⟨rfl, rfl⟩ rfl
    · rw [upd_ne hba] at z
      by_cases hbd : b = d
      · subst hbd
        rw [upd_same] at z
        cases z
        exact ⟨mA, hns, rel⟩
      · rw [upd_ne hbd] at z
        exact (hok b o z).stay (fun c v _ y => y) (fun c hc => by rw [upd_ne (at_ne ea hc exo_own), upd_ne (at_ne ed hc exd_own)]; exact hc) (fun c xs hc => by rw [upd_ne (at_ne ea hc exo_tup), upd_ne (at_ne ed hc exd_tup)]; exact hc)
  exact I2.call' (ch := []) ho U hok3 hb (fun b z => absurd z (by simp))
theorem run_ox {CX : CXT} {C fI : Addr} {k : Nat} {fd : FuncData} {ps : List Str} {sp : Sp} {y : V} {us : List Value} {kw : List (Str × Value)} {u0 : Value} {Q : VK} {s : Shared} (T : OexC X.K C) (iC : PySem.W.findIn X.K (.ref C) "__init__" = some (some (.ref fI))) (tI : PySem.W.typeIn X.K (.ref fI) = some (.type "function"))
    (F1 : FnOk X.prog X.w X.K X.mg X.base CX k fI fd ps sp) (hr : Room (k + 1) X.A) (hx : Passes CX X (fun _ _ _ => False)) (I1 : Inv X pins σ H1 s) (hus : us.length ≤ sizeLine) (ry : RelV y u0)
    (bnd : ∀ (s : Shared) (a : Addr), X.K.In s.heap → BindsTo s fd ⟨.ref a :: us, kw⟩ (ps.zip [.ref a, u0]))
    (q1 : ∀ a, H1 a = none → sp [.ref a, y] (upd H1 a (exo a C none)) (fun v H2 => v = .non ∧ ∃ (d : Addr) (fs : List (Str × V)), H2 a = some (exo a C (some d)) ∧ H2 d = some (exd d fs) ∧ Q (.ref a) (upd (upd H2 d (.xd fs)) a (exT a (.ref C) (some d)))) (fun _ _ _ => False)) :
    wpAny (model X.prog X.w) X.A (call (.ref C) us kw) (EP X pins σ Q) X.xe s := by
  obtain ⟨nm, q, N, bs, bm, sn, sub, ab, col, dd, k0, k1, k2, k3, k5, hC, hbm⟩ := T.cls
  obtain ⟨hp, g, dr, tk, os⟩ := s
  have hsz : hp.objs.size ≤ hp.objs.size + 1 := Nat.le_succ _
  have hn : H1 (hp.objs.size + 1) = none := I1.hok.fresh hsz
  have hq := q1 (hp.objs.size + 1) hn
  have kk : ∀ b o, hp.get? b = some o → ((hp.push (PySem.W.kdv_tup us)).push (PySem.HandSPX.excO C hp.objs.size)).get? b = some o := fun b o e => Heap.get?_push_of_some _ (Heap.get?_push_of_some _ e)
  have hget : ((hp.push (PySem.W.kdv_tup us)).push (PySem.HandSPX.excO C hp.objs.size)).get? (hp.objs.size + 1) = some (PySem.HandSPX.excO C hp.objs.size) := by heap_get
  have I2 : Inv X pins σ (upd H1 (hp.objs.size + 1) (exo (hp.objs.size + 1) C none)) ⟨(hp.push (PySem.W.kdv_tup us)).push (PySem.HandSPX.excO C hp.objs.size), g, dr, tk, os⟩ :=
    I1.laid (t' := tk) (a := hp.objs.size + 1) (o := exo (hp.objs.size + 1) C none) (h' := (hp.push (PySem.W.kdv_tup us)).push (PySem.HandSPX.excO C hp.objs.size)) kk hsz (exo_ok hget)
  have r2 : Vals [V.ref (hp.objs.size + 1), y] [Value.ref (hp.objs.size + 1), u0] := .cons rfl (.cons ry .nil)
  refine wpAny_call (PySem.HandSPX.call_kw F.excBase_ValueError (fun Y => PySem.HandSPX.refsVE_contains Y bm hbm) (I1.kIn _ _ hC) (PySem.W.looks_findIn I1.kIn iC) (fun self => PySem.W.bind_fn I1.kIn self tI) hus
    (codeAny_mono (F1.run _ X.stack _ _ ⟨Value.ref (hp.objs.size + 1) :: us, kw⟩ [Value.ref (hp.objs.size + 1), u0] _ _ (fun _ _ _ => False) (hr.make C us kw) (I2.env0.make C us kw) (bnd _ _ I2.kIn) r2 hq) fun r s' hq' => ?_))
  cases r with
  | error er => exact hx pins σ _ _ er s' I2 hq'
  | ok fl =>
    cases fl with
    | ret u =>
      obtain ⟨v, H2, os2, bare2, un2, hok2, rv, ev, d, fs, ea, ed, q2⟩ := hq'
      subst ev
      obtain ⟨h2, g2, d2, t2, os'⟩ := s'
      exact ⟨rv, ⟨V.ref (hp.objs.size + 1), _, ox_end I2 un2 hok2 os2 bare2 ea ed, rfl, q2⟩⟩
    | next => exact False.elim hq'
    | brk => exact False.elim hq'
    | cont => exact False.elim hq'
theorem pe_ox {CX : CXT} {x : Str} {p pos : Pos} {C fI : Addr} {k : Nat} {fd : FuncData} {ps : List Str} {sp : Sp} (T : OexC X.K C) (iC : PySem.W.findIn X.K (.ref C) "__init__" = some (some (.ref fI))) (tI : PySem.W.typeIn X.K (.ref fI) = some (.type "function"))
    (F1 : FnOk X.prog X.w X.K X.mg X.base CX k fI fd ps sp) (hr : Room (k + 1) X.A) (hb : Binds X.K fd ps []) (hps : ps.length = 2) (hx : Passes CX X (fun _ _ _ => False)) (hg : Gl X x) (hm : X.mg x = some (.ref C)) (he : PE X e te)
    (hdb : (x == ("__debug__" : Str)) = false := by decide) (hs : starEach [e] X.env = (false, eval e X.env) :: starEach [] X.env := by rfl) (hpl : (backTo pos (starEach [] X.env)).any (·.1) = false := by rfl) :
    PE X (.Call (.Name x p) [e] [] pos) (tOx C sp te) := by
  refine ⟨fun pins s σ H Q I h => ?_⟩
  refine wpAny_Call_Name_kw (ld_glob I hg hm ?_ hdb)
  refine PySem.W.callWith_K (h₀ := X.base) I.ok.mod.kin T.kC (thn ((pa_cons he pa_nil hs).run pos pins s σ H (OxQ C sp Q) I h) fun us s1 ⟨vs, H1, I1, r1, q1⟩ => ⟨I1.kIn, ?_⟩) hs hpl
  show wpAny _ _ (call (.ref C) us) _ _ _
  cases r1 with
  | nil => exact False.elim q1
  | @cons y u0 _ _ ry rn =>
    cases rn with
    | cons _ _ => exact False.elim q1
    | nil =>
      have hz : [u0].length ≤ sizeLine := by rw [sizeLine_eq]; exact Nat.le_of_ble_eq_true rfl
      exact run_ox (us := [u0]) (kw := []) T iC tI F1 hr hx I1 hz ry (fun s a hK => hb s [.ref a, u0] hK hps.symm) q1
theorem pe_oxK {CX : CXT} {x n : Str} {p pos kpos : Pos} {C fI : Addr} {k : Nat} {fd : FuncData} {ps : List Str} {sp : Sp} (T : OexC X.K C) (iC : PySem.W.findIn X.K (.ref C) "__init__" = some (some (.ref fI))) (tI : PySem.W.typeIn X.K (.ref fI) = some (.type "function"))
    (F1 : FnOk X.prog X.w X.K X.mg X.base CX k fI fd ps sp) (hr : Room (k + 1) X.A) (hb : KBn X.K fd ps 1 [n] (fun us ws => us ++ ws) (fun vs zs => vs ++ zs)) (hx : Passes CX X (fun _ _ _ => False)) (hg : Gl X x) (hm : X.mg x = some (.ref C)) (he : PE X e te)
    (hall : (backToKw pos (keywordEach [⟨some n, e, kpos⟩] X.env)).all (·.1.isSome) = true := by rfl) (hks : (backToKw pos (keywordEach [⟨some n, e, kpos⟩] X.env)).filterMap (·.1) = [n] := by rfl) (hdb : (x == ("__debug__" : Str)) = false := by decide)
    (hpl : ((backTo pos (starEach [] X.env)).any (·.1) || (backToKw pos (keywordEach [⟨some n, e, kpos⟩] X.env)).any (·.1.isNone)) = false := by rfl) :
    PE X (.Call (.Name x p) [] [⟨some n, e, kpos⟩] pos) (tOx C sp te) := by
  refine ⟨fun pins s σ H Q I h => ?_⟩
  refine wpAny_Call_Name_kw (ld_glob I hg hm ?_ hdb)
  refine PySem.W.callWith_KW0 (h₀ := X.base) I.ok.mod.kin T.kC hall ?_ hpl
  refine thn ((pk_cons he pk_nil).run pos pins s σ H (OxQ C sp Q) I h) fun ws s2 ⟨zs, H2, I2, rz, q1⟩ => ⟨I2.kIn, ?_⟩
  rw [hks]
  cases rz with
  | nil => exact False.elim q1
  | @cons y u0 _ _ ry rn =>
    cases rn with
    | cons _ _ => exact False.elim q1
    | nil =>
      have hz : ([] : List Value).length ≤ sizeLine := Nat.zero_le _
      show wpAny _ _ (call (.ref C) [] [(n, u0)]) _ _ _
      exact run_ox (us := []) (kw := [(n, u0)]) T iC tI F1 hr hx I2 hz ry (fun s a hK => hb.to s [.ref a] [u0] hK rfl rfl) q1
end
end L2

set_option maxHeartbeats 400000
/-! Ye: data of any kind with dicts (rDz), repr of it, errors with a value of any kind (rExG). -/
namespace Mw
open PySem L2 PySem.Spec PyProof.Rows
open Evl (Ex)
open He (ga ma)
/-! ### data of any kind, dicts with int and text keys among them -/
def keyD : L2.Key → PyData
  | .inl i => .int i
  | .inr x => .str x
mutual
inductive Dz (H : Hp) : V → PyData → Prop
  | non : Dz H .non .none
  | bl (b : Bool) : Dz H (.bl b) (.bool b)
  | int (i : Int) : Dz H (.int i) (.int i)
  | str (x : PySem.Str) : Dz H (.str x) (.str x)
  | lst {a : Addr} {xs : List V} {ds : List PyData} : H a = some (.lst xs) → DzAll H xs ds → Dz H (.ref a) (.list ds)
  | tup {a : Addr} {xs : List V} {ds : List PyData} : H a = some (.tup xs) → DzAll H xs ds → Dz H (.ref a) (.tuple ds)
  | dic {a : Addr} {kvs : List (L2.Key × V)} {ds : List PyData} : H a = some (.dK kvs) → DzAll H (kvs.map (·.2)) ds → Dz H (.ref a) (.dict ((kvs.map fun p => keyD p.1).zip ds))
inductive DzAll (H : Hp) : List V → List PyData → Prop
  | nil : DzAll H [] []
  | cons {v : V} {vs : List V} {d : PyData} {ds : List PyData} : Dz H v d → DzAll H vs ds → DzAll H (v :: vs) (d :: ds)
end
theorem Dz.up {H H' : Hp} {v : V} {d : PyData} (e : Ex H H') (h : Dz H v d) : Dz H' v d :=
  Dz.rec (motive_1 := fun v d _ => Dz H' v d) (motive_2 := fun vs ds _ => DzAll H' vs ds) .non .bl .int .str (fun h1 _ ih => .lst (e _ _ h1) ih) (fun h1 _ ih => .tup (e _ _ h1) ih) (fun h1 _ ih => .dic (e _ _ h1) ih) .nil (fun _ _ i1 i2 => .cons i1 i2) h
theorem DzAll.len {H : Hp} {vs : List V} {ds : List PyData} (h : DzAll H vs ds) : vs.length = ds.length :=
  DzAll.rec (motive_1 := fun _ _ _ => True) (motive_2 := fun vs ds _ => vs.length = ds.length) trivial (fun _ => trivial) (fun _ => trivial) (fun _ => trivial) (fun _ _ _ => trivial) (fun _ _ _ => trivial) (fun _ _ _ => trivial) rfl (fun _ _ _ i => congrArg Nat.succ i) h
def rDz : Rp PyData := ⟨fun H v d => Dz H v d, fun e h => Dz.up e h⟩
theorem dz_all {F : Hp} : ∀ {vs : List V} {ds : List PyData}, Rs rDz F vs ds → DzAll F vs ds
  | _, _, .nil => .nil
  | _, _, .cons h t => .cons h (dz_all t)
section
variable {K : PySem.W.Frag}
theorem dz_int : ∀ (F : Hp) v (x : Int), rInt.r F v x → rDz.r F v (.int x) := fun F v x r => by cases (show v = .int x from r); exact Dz.int x
theorem dz_str : ∀ (F : Hp) v (x : PySem.Str), rStr.r F v x → rDz.r F v (.str x) := fun F v x r => by cases (show v = .str x from r); exact Dz.str x
theorem dz_bool : ∀ (F : Hp) v (x : Bool), rBool.r F v x → rDz.r F v (.bool x) := fun F v x r => by cases (show v = .bl x from r); exact Dz.bl x
theorem dz_lst : ∀ (F : Hp) v (x : List PyData), (rLst rDz).r F v x → rDz.r F v (.list x) := fun F v x ⟨a, vs, h1, h2, h3⟩ => by
  subst h1
  exact Dz.lst h2 (dz_all h3)
theorem dz_tup : ∀ (F : Hp) v (x : List PyData), (rTup K rDz).r F v x → rDz.r F v (.tuple x) := fun F v x ⟨a, vs, h1, h2, h3⟩ => by
  subst h1
  exact Dz.tup h2 (dz_all h3)
end
/-! ### it is read as such -/
/-- addresses that are not those of the modules' dict -/
def Lw (h : Heap) (as : List Addr) : Prop := ∀ b ∈ as, (b == sysModules) = false ∨ ∃ o, h.get? b = some o ∧ o.cls = .type "list"
theorem Lw.cons {h : Heap} {a : Addr} {as : List Addr} (ha : (a == sysModules) = false ∨ ∃ o, h.get? a = some o ∧ o.cls = .type "list") (hs : Lw h as) : Lw h (a :: as) := fun b hb => (List.mem_cons.mp hb).elim (fun e => e ▸ ha) (hs b)
theorem Lw.app {h : Heap} {as bs : List Addr} (ha : Lw h as) (hb : Lw h bs) : Lw h (as ++ bs) := fun b hm => (List.mem_append.mp hm).elim (ha b) (hb b)
theorem keys_read {P : Program} {w : World} {h : Heap} : ∀ {es : List DictEntry} {vs : List (L2.Key × Value)} {kvs : List (L2.Key × V)}, Pairs (mixKind P w) es vs → KV kvs vs → ReadsAll h (es.map (·.key)) (kvs.map fun p => keyD p.1) [] ∧ Vals (kvs.map (·.2)) (es.map (·.val))
  | _, _, _, .nil, .nil => ⟨.nil, .nil⟩
  | _, _, _, .cons (e := e) (kv := kv) hk hv t, .cons (a := p) ⟨r1, r2⟩ t2 => by
    obtain ⟨i1, i2⟩ := keys_read (h := h) t t2
    refine ⟨?_, .cons (by show RelV p.2 e.val; rw [hv]; exact r2) i2⟩
    have hk : keyIs kv.1 e.key = true := hk
    have q : ∃ x, e.key = x ∧ Reads h x (keyD p.1) [] := by
      refine ⟨_, rfl, ?_⟩
      rcases keyIs_shape hk with ⟨i, t, e1, e2⟩ | ⟨x, t, e1, e2⟩
      · rw [r1, e1, e2]
        exact .int i t
      · rw [r1, e1, e2]
        exact .str x t
    obtain ⟨x, e1, q⟩ := q
    have := ReadsAll.cons q i1
    rw [← e1] at this
    exact this
theorem dz_read {P : Program} {w : World} {H : Hp} {h : Heap} (ok : HOk P w H h) {v : V} {d : PyData} (r : Dz H v d) : ∀ u, RelV v u → ∃ as, Reads h u d as ∧ Lw h as := by
  refine Dz.rec (motive_1 := fun v d _ => ∀ u, RelV v u → ∃ as, Reads h u d as ∧ Lw h as) (motive_2 := fun vs ds _ => ∀ us, Vals vs us → ∃ z, ReadsAll h us ds z ∧ Lw h z) ?_ ?_ ?_ ?_ ?_ ?_ ?_ ?_ ?_ r
  · intro u ru
    cases (show u = Value.none from ru)
    exact ⟨_, .none, fun b hb => by cases hb⟩
  · intro b u ru
    cases (show u = Value.bool b from ru)
    exact ⟨_, .bool b, fun b hb => by cases hb⟩
  · intro i u ru
    obtain ⟨t, rfl⟩ := (show ∃ t, u = Value.int i t from ru)
    exact ⟨_, .int _ _, fun b hb => by cases hb⟩
  · intro i u ru
    obtain ⟨t, rfl⟩ := (show ∃ t, u = Value.str i t from ru)
    exact ⟨_, .str _ _, fun b hb => by cases hb⟩
  · intro p vs ds h1 _ ih u ru
    cases (show u = Value.ref p from ru)
    obtain ⟨_, its, n, q1, q2⟩ := ok p _ h1
    obtain ⟨z, q, l⟩ := ih its q1
    exact ⟨_, .list q2 rfl rfl (by simpa using q), .cons (.inr ⟨_, q2, rfl⟩) l⟩
  · intro p vs ds h1 _ ih u ru
    cases (show u = Value.ref p from ru)
    obtain ⟨_, its, q1, o, q2, q3, n, q4⟩ := ok p _ h1
    obtain ⟨z, q, l⟩ := ih its q1
    exact ⟨_, .tuple q2 q3 q4 (by simpa using q), l⟩
  · intro p kvs ds h1 hs ih u ru
    cases (show u = Value.ref p from ru)
    obtain ⟨_, hsm, vs, rk, o, es, ep, q1, q2, q3, q4, q5, q6⟩ := ok p _ h1
    obtain ⟨k1, k2⟩ := keys_read (h := h) q5 rk
    obtain ⟨z, q, l⟩ := ih _ k2
    have len : (kvs.map fun p => keyD p.1).length = ds.length := by
      have := hs.len
      rw [List.length_map] at this ⊢
      exact this
    refine ⟨_, .dict (as := []) (bs := z) q1 q2.1 q3 ?_ ?_, .cons (.inl hsm) l⟩
    · rw [List.map_fst_zip (Nat.le_of_eq len)]
      exact k1
    · rw [List.map_snd_zip (Nat.le_of_eq len.symm)]
      exact q
  · intro us r
    cases r
    exact ⟨_, .nil, fun b hb => by cases hb⟩
  · intro v vs d ds h1 h2 i1 i2 us r
    cases r with
    | cons r1 r2 =>
      obtain ⟨_, x1, l1⟩ := i1 _ r1
      obtain ⟨_, x2, l2⟩ := i2 _ r2
      exact ⟨_, .cons x1 x2, l1.app l2⟩
/-! ### repr -/
def SysF (K : PySem.W.Frag) : Prop := ∃ o, K.lookup sysModules = some o ∧ o.cls ≠ .type "list"
def sysB (K : PySem.W.Frag) : Bool := match K.lookup sysModules with
  | some o => !decide (o.cls = .type "list")
  | none => false
theorem sysB_ok {K : PySem.W.Frag} (h : sysB K = true) : SysF K := by
  unfold sysB at h
  cases e : K.lookup sysModules with
  | none => rw [e] at h; cases h
  | some o =>
    rw [e] at h
    exact ⟨o, e, by simpa using h⟩
def okZ (d : PyData) : Bool := d.showable && decide (d.shown.length ≤ sizeLine) && decide (d.depth ≤ 40)
def reprZ (d : PyData) : Option PySem.Str := if okZ d = true then some d.shown else none
def rReprZ (xs : List V) (H : Hp) (Q : VK) : Prop := ∃ v d, xs = [v] ∧ okZ d = true ∧ Dz H v d ∧ Q (.str d.shown) H
theorem unZ {k : Nat} {A : Around} (hr : Room k A) : A.units + 200 < cLine := by have := hr.un; omega
theorem call_reprZ {X : Cx} (un : X.A.units + 200 < cLine) (hgd : X.A.guards = some []) (hS : SysF X.K) : CallR X (.builtin "repr") rReprZ := by
  intro pins s σ H xs us Q I r h
  obtain ⟨v, d, rfl, ok, hR, q⟩ := h
  obtain ⟨u, rfl, ru⟩ := vals1 r
  obtain ⟨as, rd, lw⟩ := dz_read I.hok hR u ru
  unfold okZ at ok
  simp only [Bool.and_eq_true, decide_eq_true_eq] at ok
  obtain ⟨⟨hs, sz⟩, hp⟩ := ok
  have hu : X.A.units + (d.depth + 1) < cLine := by omega
  have sm : sysModules ∉ as := fun hm => by
    obtain ⟨o, e1, e2⟩ := hS
    rcases lw _ hm with z | ⟨o2, z1, z2⟩
    · cases z
    · have := I.kIn _ _ e1
      rw [this] at z1
      cases z1
      exact e2 z2
  have big : ∀ {a : Addr}, u = .ref a → wpAny (model X.prog X.w) X.A (call (.builtin "repr") [u]) (EP X pins σ Q) X.xe s := fun {a} e => by
    subst e
    exact repr_of_reads' rd hs (fun _ => sm) hgd hu (fun _ _ e => e) (fun h' _ tk kp => ⟨.str _, H, I.kept kp, ⟨_, rfl⟩, q⟩) sz
  cases hR with
  | non =>
    cases rd
    have e : (PyData.none).shown = "None" := by simp [PyData.shown]
    rw [e] at q
    exact PySem.P.repr_of_none ⟨.str _, H, I.tok _, ⟨_, rfl⟩, q⟩
  | bl b =>
    cases rd
    have e : (PyData.bool b).shown = (if b then ("True" : PySem.Str) else ("False" : PySem.Str)) := by cases b <;> simp [PyData.shown]
    rw [e] at q
    exact PySem.P.repr_of_bool ⟨.str _, H, I.tok _, ⟨_, rfl⟩, q⟩
  | int i =>
    cases rd
    have hs : i.natAbs.log2 < 1920 := by simpa [PyData.showable] using hs
    have e : (PyData.int i).shown = PySem.Str.ofString (toString i) := by simp [PyData.shown]
    rw [e] at q
    exact PySem.P.repr_of_int hs ⟨.str _, H, I.tok _, ⟨_, rfl⟩, q⟩
  | str x =>
    cases rd
    have e : (PyData.str x).shown = reprText x := by simp [PyData.shown]
    rw [e] at q sz
    exact PySem.P.repr_of_str ⟨.str _, H, I.tok _, ⟨_, rfl⟩, q⟩ sz
  | lst _ _ => exact big (show u = Value.ref _ from ru)
  | tup _ _ => exact big (show u = Value.ref _ from ru)
  | dic _ _ => exact big (show u = Value.ref _ from ru)
theorem vc_reprZ : VC rReprZ rDz rStr reprZ := fun c F cs H v a x k r q Q hQ => by
  unfold reprZ at q
  split at q
  · rename_i ok
    cases q
    exact ⟨v, a, rfl, ok, Dz.up k.ex r, hQ _ _ _ (Ex.refl _) k rfl⟩
  · cases q
end Mw

set_option maxHeartbeats 400000
/-! Yf: errors with a value of any kind (rExG), dict displays with effects. -/
namespace Mw
open PySem L2 PySem.Spec PyProof.Rows
open Evl (Ex)
open He (ga ma)
structure ErG (π : Type) where
  cls : PySem.Str
  pay : π
/-- a value, whatever it is -/
def rRaw : Rp V := ⟨fun _ v x => v = x, fun _ h => h⟩
def rExG {π : Type} (K : PySem.W.Frag) (L : List PySem.Str) (rp : Rp π) : Rp (ErG π) := ⟨fun F v er => er.cls ∈ L ∧ ∃ a dd fs pv, v = .ref a ∧ F a = some (exT a (.ref (ga K er.cls)) (some dd)) ∧ F dd = some (.xd fs) ∧ fs.lookup ("value" : PySem.Str) = some pv ∧ rp.r F pv er.pay,
  fun {_ _ _ _} e ⟨h0, a, dd, fs, pv, h1, h2, h3, h4, h5⟩ => ⟨h0, a, dd, fs, pv, h1, e _ _ h2, e _ _ h3, h4, rp.up e h5⟩⟩
def rErG {π : Type} (K : PySem.W.Frag) (L : List PySem.Str) (rp : Rp π) (F : Hp) (cls : Value) (d : Option Addr) (er : ErG π) : Prop := er.cls ∈ L ∧ ∃ dd fs pv, cls = .ref (ga K er.cls) ∧ d = some dd ∧ F dd = some (.xd fs) ∧ fs.lookup ("value" : PySem.Str) = some pv ∧ rp.r F pv er.pay
section
variable {α π : Type} {ra : Rp α} {rp : Rp π} {σ : L2.St} {F H : Hp} {cs : Cs} {te : TE} {K : PySem.W.Frag} {L : List PySem.Str} {mg : PySem.Str → Option Value} {c : Act} {W : WX}
theorem em_valG {m : Option (ErG π)} (E : ErrF K mg L) (h : EM (rExG K L rp) te σ F cs m) : EM rp (tXfT K "value" te) σ F cs (m.map (·.pay)) := fun d q c F1 H e k Q hQ => by
  cases m with
  | none => cases q
  | some er =>
    cases q
    refine h er rfl c F1 H e k _ fun v F2 H2 e2 k2 r2 => ?_
    obtain ⟨h0, a, dd, fs, pv, rfl, h2, h3, h4, h5⟩ := r2
    exact ⟨a, _, dd, fs, pv, rfl, k2.ex _ _ h2, E.xf _ h0, E.noV _ h0, k2.ex _ _ h3, h4, hQ pv F2 H2 e2 k2 h5⟩
theorem em_isXG {m : Option (ErG π)} {d : PySem.Str} (E : ErrF K mg L) (hd : d ∈ L) (h : EM (rExG K L rp) te σ F cs m) : EM rBool (tCB (rIsX K) (tCons te (tCons (tC (.ref (ga K d))) tNil))) σ F cs (m.map fun e => subE e.cls d) := fun b q c F1 H e k Q hQ => by
  cases m with
  | none => cases q
  | some er =>
    cases q
    refine h er rfl c F1 H e k _ fun v F2 H2 e2 k2 r2 => ?_
    obtain ⟨h0, a, dd, fs, pv, rfl, h2, h3, h4, h5⟩ := r2
    exact ⟨a, _, dd, fs, _, _, _, rfl, k2.ex _ _ h2, k2.ex _ _ h3, E.kit _ h0, .own _, E.kio _ h0 _ hd, hQ _ F2 H2 e2 k2 rfl⟩
theorem em_isXVG {m : Option (ErG π)} (E : ErrF K mg L) (h : EM (rExG K L rp) te σ F cs m) : EM rBool (tCB (rIsX K) (tCons te (tCons (tC (.ty "ValueError")) tNil))) σ F cs (m.map fun _ => true) := fun b q c F1 H e k Q hQ => by
  cases m with
  | none => cases q
  | some er =>
    cases q
    refine h er rfl c F1 H e k _ fun v F2 H2 e2 k2 r2 => ?_
    obtain ⟨h0, a, dd, fs, pv, rfl, h2, h3, h4, h5⟩ := r2
    exact ⟨a, _, dd, fs, _, _, _, rfl, k2.ex _ _ h2, k2.ex _ _ h3, E.kit _ h0, .ty _, E.kiV _ h0, hQ _ F2 H2 e2 k2 rfl⟩
/-- C(e), C(value=e) -/
theorem em_oxG {C : PySem.Str} {m : Option π} (E : ErrF K mg L) (hC : C ∈ L) (h : EM rp te σ F cs m) : EM (rExG K L rp) (tOx (ga K C) (spEI K L) te) σ F cs (m.map fun x => ⟨C, x⟩) := fun d q c F1 H e k Q hQ => by
  cases m with
  | none => cases q
  | some x =>
    cases q
    refine h x rfl c F1 H e k _ fun v F2 H2 e2 k2 r2 => fun a ha => ⟨a, C, v, rfl, hC, upd_same, fun dx hdx nex => ⟨rfl, dx, [("value", v)], upd_same, ?_, ?_⟩⟩
    · rw [upd_ne nex, upd_same]
    · have hd1 : H2 dx = none := by
        have z := hdx
        rw [upd_ne nex] at z
        exact z
      have e1 : upd (upd (upd (upd (upd H2 a (exo a (ga K C) none)) dx (exd dx [("value", v)])) a (exo a (ga K C) (some dx))) dx (.xd [("value", v)])) a (exT a (.ref (ga K C)) (some dx)) = upd (upd H2 dx (.xd [("value", v)])) a (exT a (.ref (ga K C)) (some dx)) := by
        funext b
        by_cases hba : b = a
        · subst hba; rw [upd_same, upd_same]
        · rw [upd_ne hba, upd_ne hba]
          by_cases hb : b = dx
          · subst hb; rw [upd_same, upd_same]
          · rw [upd_ne hb, upd_ne hb, upd_ne hba, upd_ne hb, upd_ne hba]
      rw [e1]
      have f1 := k2.fnone hd1
      have g1 := Ex.new (o := HO.xd [("value", v)]) f1
      have k3 := k2.lay (o := HO.xd [("value", v)]) hd1
      have ha3 : upd H2 dx (.xd [("value", v)]) a = none := by rw [upd_ne (Ne.symm nex)]; exact ha
      have f2 := k3.fnone ha3
      have g2 := Ex.new (o := exT a (.ref (ga K C)) (some dx)) f2
      exact hQ _ _ _ ((e2.trans g1).trans g2) (k3.lay (o := exT a (.ref (ga K C)) (some dx)) ha3) ⟨hC, a, dx, _, v, rfl, upd_same, g2 _ _ upd_same, rfl, rp.up (g1.trans g2) r2⟩
theorem Cov.caughtG {er : ErG π} {a dd : Addr} {fs : List (PySem.Str × V)} {pv : V} (k : Cov c F cs H) (ha : H a = none) (h0 : er.cls ∈ L) (h1 : F dd = some (.xd fs)) (h2 : fs.lookup ("value" : PySem.Str) = some pv) (h3 : rp.r F pv er.pay) :
    ∃ F2, Ex F F2 ∧ Cov c F2 cs (upd H a (exT a (.ref (ga K er.cls)) (some dd))) ∧ (rExG K L rp).r F2 (.ref a) er := by
  have e := Ex.new (o := exT a (.ref (ga K er.cls)) (some dd)) (k.fnone ha)
  exact ⟨_, e, k.lay ha, h0, a, dd, fs, pv, rfl, upd_same, e _ _ h1, h2, rp.up e h3⟩
/-- raise C(e), raise C(value=e): the same reading, whichever it is -/
theorem a_raiseG {C : PySem.Str} {d : π} {m : Option π} (Er_ : ErrF K mg L) (hC : C ∈ L) (h : EM rp te σ F cs m) (hm : m = some d) (k : Cov c F cs H)
    (ne : ∀ cls dd F2 H2, Ex F F2 → Cov c F2 cs H2 → rErG K L rp F2 cls dd ⟨C, d⟩ → W cls dd σ H2) : tMkO (ga K C) (spEI K L) [] (tCons te tNil) σ H fun cls dd H' => W cls dd σ H' := by
  refine h d hm c F H (Evl.Ex.refl _) k _ fun v F1 H1 e1 k1 x1 => ?_
  show (_ : List V).length ≤ 1000 ∧ _
  refine ⟨by show 1 ≤ 1000; decide, fun a ha => ⟨a, C, v, rfl, hC, upd_same, fun dx hdx nex => ⟨rfl, dx, [("value", v)], upd_same, ?_, ?_, ?_⟩⟩⟩
  · rw [upd_ne nex, upd_same]
  · have z := hdx
    rw [upd_ne nex] at z
    exact z
  · have hd1 : H1 dx = none := by
      have z := hdx
      rw [upd_ne nex] at z
      exact z
    have e : upd (del (upd (upd (upd H1 a (exo a (ga K C) none)) dx (exd dx [("value", v)])) a (exo a (ga K C) (some dx))) a) dx (.xd [("value", v)]) = upd H1 dx (.xd [("value", v)]) := by
      funext b
      by_cases hb : b = dx
      · subst hb; rw [upd_same, upd_same]
      · rw [upd_ne hb, upd_ne hb]
        by_cases hba : b = a
        · subst hba; rw [del_same, ha]
        · rw [del_ne hba, upd_ne hba, upd_ne hb, upd_ne hba]
    rw [e]
    have f1 := k1.fnone hd1
    have g1 := Ex.new (o := HO.xd [("value", v)]) f1
    exact ne _ _ _ _ (e1.trans g1) (k1.lay (o := HO.xd [("value", v)]) hd1) ⟨hC, dx, _, v, rfl, rfl, upd_same, rfl, rp.up g1 x1⟩
end
end Mw

set_option maxHeartbeats 400000
/-! Yg: raise C(k = e); {k: e, l: f} whose second value has effects. -/
namespace L2
open PySem PySem.Spec PyProof.Rows
section
variable {X : Cx} {e : Expr} {te : TE}
theorem pmk_oexK {CX : CXT} {x n : Str} {p pos kpos : Pos} {C fI : Addr} {k : Nat} {fd : FuncData} {ps : List Str} {sp : Sp} (T : OexC X.K C) (iC : PySem.W.findIn X.K (.ref C) "__init__" = some (some (.ref fI))) (tI : PySem.W.typeIn X.K (.ref fI) = some (.type "function"))
    (F1 : FnOk X.prog X.w X.K X.mg X.base CX k fI fd ps sp) (hr : Room (k + 1) X.A) (hb : KBn X.K fd ps 1 [n] (fun us ws => us ++ ws) (fun vs zs => vs ++ zs)) (hps : ps.length = 2) (hx : Passes CX X (fun _ _ _ => False)) (hg : Gl X x) (hm : X.mg x = some (.ref C)) (he : PE X e te)
    (hall : (backToKw pos (keywordEach [⟨some n, e, kpos⟩] X.env)).all (·.1.isSome) = true := by rfl) (hks : (backToKw pos (keywordEach [⟨some n, e, kpos⟩] X.env)).filterMap (·.1) = [n] := by rfl) (hdb : (x == ("__debug__" : Str)) = false := by decide)
    (hpl : ((backTo pos (starEach [] X.env)).any (·.1) || (backToKw pos (keywordEach [⟨some n, e, kpos⟩] X.env)).any (·.1.isNone)) = false := by rfl) :
    PMk X (.Call (.Name x p) [] [⟨some n, e, kpos⟩] pos) (tMkO C sp [] (tCons te tNil)) := by
  intro pins s σ H Q I h
  obtain ⟨nm, q, N, bs, bm, sn, sub, ab, col, dd, k0, k1, k2, k3, k5, hC, hbm⟩ := T.cls
  refine wpAny_Call_Name_kw (ld_glob I hg hm ?_ hdb)
  refine PySem.W.callWith_KW0 (h₀ := X.base) I.ok.mod.kin T.kC hall ?_ hpl
  refine thn ((pk_cons he pk_nil).run pos pins s σ H _ I h) fun ws s1 ⟨zs, H1, I1, rz, hz, q1⟩ => ⟨I1.kIn, ?_⟩
  rw [hks]
  obtain ⟨hp, g, dr, tk, os⟩ := s1
  have hsz : hp.objs.size ≤ hp.objs.size + 1 := Nat.le_succ _
  have hn : H1 (hp.objs.size + 1) = none := I1.hok.fresh hsz
  have hq := q1 (hp.objs.size + 1) hn
  have l1 := F1.len _ _ _ _ hq
  cases rz with
  | nil => rw [hps] at l1; cases l1
  | @cons y u0 _ _ ry rn =>
    cases rn with
    | cons _ _ => rw [hps] at l1; simp at l1
    | nil =>
      show wpAny _ _ (call (.ref C) [] [(n, u0)]) _ _ _
      have kk : ∀ b o, hp.get? b = some o → ((hp.push (PySem.W.kdv_tup [])).push (PySem.HandSPX.excO C hp.objs.size)).get? b = some o := fun b o e => Heap.get?_push_of_some _ (Heap.get?_push_of_some _ e)
      have hget : ((hp.push (PySem.W.kdv_tup [])).push (PySem.HandSPX.excO C hp.objs.size)).get? (hp.objs.size + 1) = some (PySem.HandSPX.excO C hp.objs.size) := by heap_get
      have I2 : Inv X pins σ (upd H1 (hp.objs.size + 1) (exo (hp.objs.size + 1) C none)) ⟨(hp.push (PySem.W.kdv_tup [])).push (PySem.HandSPX.excO C hp.objs.size), g, dr, tk, os⟩ :=
        I1.laid (t' := tk) (a := hp.objs.size + 1) (o := exo (hp.objs.size + 1) C none) (h' := (hp.push (PySem.W.kdv_tup [])).push (PySem.HandSPX.excO C hp.objs.size)) kk hsz (exo_ok hget)
      have r2 : Vals [V.ref (hp.objs.size + 1), y] [Value.ref (hp.objs.size + 1), u0] := .cons rfl (.cons ry .nil)
      have hus : ([] : List Value).length ≤ sizeLine := Nat.zero_le _
      refine wpAny_call (PySem.HandSPX.call_kw F.excBase_ValueError (fun Y => PySem.HandSPX.refsVE_contains Y bm hbm) (I1.kIn _ _ hC) (PySem.W.looks_findIn I1.kIn iC) (fun self => PySem.W.bind_fn I1.kIn self tI) hus
        (codeAny_mono (F1.run _ X.stack _ _ ⟨[Value.ref (hp.objs.size + 1)], [(n, u0)]⟩ [Value.ref (hp.objs.size + 1), u0] _ _ (fun _ _ _ => False) (hr.make C [] [(n, u0)]) (I2.env0.make C [] [(n, u0)]) (hb.to _ [Value.ref (hp.objs.size + 1)] [u0] I2.kIn rfl rfl) r2 hq) fun r s' hq' => ?_))
      cases r with
      | error er => exact hx pins σ _ _ er s' I2 hq'
      | ok fl =>
        cases fl with
        | ret u =>
          obtain ⟨v, H2, os2, bare2, un2, hok2, rv, ev, d, fs, ea, ed, hd1, q2⟩ := hq'
          subst ev
          obtain ⟨h2, g2, d2, t2, os'⟩ := s'
          exact ⟨rv, mk_end (raises_own T.exC T.tyC) I1 hsz kk un2 hok2 os2 bare2 ea ed hd1 q2⟩
        | next => exact False.elim hq'
        | brk => exact False.elim hq'
        | cont => exact False.elim hq'
end
end L2
namespace Mw
open PySem L2 PySem.Spec PyProof.Rows
open Evl (Ex)
/-- a dict that is being made -/
def cE : Cp := ⟨fun _ o => o = .dK [], fun _ h => h, fun h => by subst h; trivial⟩
section
variable {γ : Type} {σ : L2.St} {F : Hp} {cs : γ → Cs} {t1 t2 : TE}
/-- {k1: e1, k2: e2} -/
theorem sm_disp2 {k1 k2 : PySem.Str} (hk : k1 ≠ k2) {s : γ} {m1 : Option PyData} {m2 : Option (PyData × γ)} (h1 : ∀ p, EM rDz t1 σ F ((p, cE) :: cs s) m1) (h2 : ∀ p, SM rDz t2 σ F ((p, cE) :: cs s) m2 fun s => (p, cE) :: cs s) :
    SM rDz (tDisp [(tC (.str k1), t1), (tC (.str k2), t2)]) σ F (cs s) (m1.bind fun a => m2.bind fun r => some (.dict [(.str k1, a), (.str k2, r.1)], r.2)) cs := fun d g q c F0 H0 e0 k0 Q hQ => by
  obtain ⟨a, q1, q⟩ := bind_some q
  obtain ⟨⟨b, s2⟩, q2, q⟩ := bind_some q
  cases q
  intro p hp
  have k1' := k0.own0 (o := .dK []) (x := cE) hp rfl
  refine h1 p a q1 c F0 _ e0 k1' _ fun v1 F1 H1 e1 k3 r1 => ?_
  refine h2 p b _ q2 c F1 H1 (e0.trans e1) k3 _ fun v2 F2 H2 e2 k4 r2 => ?_
  obtain ⟨f, n, o, ho, eo⟩ := k4.head
  cases (show o = .dK [] from eo)
  refine ⟨ho, [(.inr k1, v1), (.inr k2, v2)], rfl, Nat.le_of_ble_eq_true rfl, ?_⟩
  have em : mergeK [] [((.inr k1 : L2.Key), v1), ((.inr k2 : L2.Key), v2)] = [((.inr k1 : L2.Key), v1), ((.inr k2 : L2.Key), v2)] := by
    show putK (putK [] (.inr k1 : L2.Key) v1) (.inr k2 : L2.Key) v2 = _
    have : putK ([] : List (L2.Key × V)) (.inr k1 : L2.Key) v1 = [((.inr k1 : L2.Key), v1)] := rfl
    rw [this]
    unfold putK
    rw [if_neg (by simp [hk])]
    rfl
  rw [em]
  have k5 : Cov c F2 ((p, (⟨fun _ o => o = .dK [(.inr k1, v1), (.inr k2, v2)], fun _ h => h, fun h => by subst h; trivial⟩ : Cp)) :: cs s2) (upd H2 p (.dK [(.inr k1, v1), (.inr k2, v2)])) := k4.set1 rfl
  have hn : c.H0 p = none := k0.dom p hp
  have k6 := k5.freeze upd_same hn
  have e3 : Ex F2 (upd F2 p (.dK [(.inr k1, v1), (.inr k2, v2)])) := Ex.new f
  exact hQ _ _ _ ((e1.trans e2).trans e3) k6 (Dz.dic (kvs := [(.inr k1, v1), (.inr k2, v2)]) (ds := [a, b]) upd_same (.cons (Dz.up (e2.trans e3) r1) (.cons (Dz.up e3 r2) .nil)))
end
end Mw
namespace Mw
open PySem L2 PySem.Spec PyProof.Rows
open Evl (Ex)
open He (ga ma)
theorem em_dzN {σ : L2.St} {F : Hp} {cs : Cs} : EM rDz (tC .non) σ F cs (some PyData.none) := fun d q c F1 H e k Q hQ => by
  cases q
  exact hQ .non F1 H (Evl.Ex.refl _) k Dz.non
theorem em_dz0 {σ : L2.St} {F : Hp} {cs : Cs} : EM rDz tDNewK σ F cs (some (PyData.dict [])) := fun d q c F1 H e k Q hQ => by
  cases q
  intro p hp
  have f := k.fnone hp
  exact hQ _ _ _ (Ex.new f) (k.lay (o := .dK []) hp) (Dz.dic (kvs := []) (ds := []) upd_same .nil)
/-- the errors' own __init__, by position and by name -/
structure CalEK (P : Program) (w : World) (K : PySem.W.Frag) (mg : PySem.Str → Option Value) (base : Heap) (L : List PySem.Str) : Prop where
  ex : ∃ fd, FnOk P w K mg base CX0 1 (eiA K) fd ["self", "value"] (spEI K L) ∧ Binds K fd ["self", "value"] [] ∧ KBn K fd ["self", "value"] 1 ["value"] (fun us ws => us ++ ws) (fun vs zs => vs ++ zs)
end Mw

set_option maxHeartbeats 400000
/-! Yh: a list, a dict and a tuple that hold one list, one of them drawn (k00). -/
namespace Mw
open PySem L2 PySem.Spec PyProof.Rows
open Evl (Ex)
open He (ga ma)
/-- a cell that stands exactly so -/
def cHO (o : HO) (h : NT o) : Cp := ⟨fun _ o' => o' = o, fun _ h => h, fun e => e ▸ h⟩
abbrev ka : L2.Key := .inr "a"
abbrev kb : L2.Key := .inr "b"
abbrev hoA (p : Addr) : HO := .dK [(ka, .ref p)]
abbrev hoAB (p : Addr) : HO := .dK [(ka, .ref p), (kb, .int 2)]
section
variable {α π : Type} {K : PySem.W.Frag} {L : List PySem.Str} {F H : Hp} {c : Act} {σ : L2.St}
theorem three_ok {pt pin : Addr} {X X' Y : Cp} {tcall : TE} {x : Int} {Q : VK} (h1 : σ[1]? = some (some (.ref pin))) (k : Cov c F [(pt, X), (pin, Y)] H)
    (call : ∀ cs F H, Cov c F ((pt, X) :: cs) H → ∀ Q : VK, (∀ F2 H2, Ex F F2 → Cov c F2 ((pt, X') :: cs) H2 → Q (.int x) H2) → tcall σ H Q) (hx : x = 0 ∨ x = 1 ∨ x = 2)
    (hQ : ∀ v F2 H2 pd q, Ex F F2 → Cov c F2 [(pt, X'), (pin, Y), (pd, cHO (hoA pin) trivial)] H2 → c.H0 pd = none → F2 q = some (.tup [.ref pin, .int 1]) → (x = 0 ∧ v = .ref pin ∨ x = 1 ∧ v = .ref pd ∨ x = 2 ∧ v = .ref q) → Q v H2) :
    tOp (rIxL K) (tLst (tCons (tVar 1) (tCons (tDisp [(tC (.str "a"), tVar 1)]) (tCons (tTup (tCons (tVar 1) (tCons (tC (.int 1)) tNil))) tNil)))) tcall σ H Q := by
  refine ⟨_, h1, ?_⟩
  intro p hp
  refine ⟨_, h1, upd_same, [(ka, .ref pin)], rfl, Nat.le_of_ble_eq_true rfl, ?_⟩
  rw [upd_upd]
  have em : mergeK [] [(ka, V.ref pin)] = [(ka, V.ref pin)] := rfl
  rw [em]
  have hn : c.H0 p = none := k.dom p hp
  have k1 := k.own0 (o := hoA pin) (x := cHO (hoA pin) trivial) hp rfl
  refine ⟨_, h1, by rw [sizeLine_eq]; exact Nat.le_of_ble_eq_true rfl, fun q hq => ?_⟩
  have f1 := k1.fnone hq
  have k2 := k1.lay (o := .tup [.ref pin, .int 1]) hq
  refine ⟨by rw [sizeLine_eq]; exact Nat.le_of_ble_eq_true rfl, fun l hl => ?_⟩
  have f2 := k2.fnone hl
  have k3 := k2.lay (o := .lst [.ref pin, .ref p, .ref q]) hl
  have k4 := k3.perm (cs' := [(pt, X), (pin, Y), (p, cHO (hoA pin) trivial)]) (by
    refine (List.Perm.swap _ _ _).trans (List.Perm.cons _ (List.Perm.swap _ _ _))) 
  refine call _ _ _ k4 _ fun F2 H2 e2 k5 => ?_
  have hF : F2 l = some (.lst [.ref pin, .ref p, .ref q]) := e2 _ _ upd_same
  have eq1 : Ex F F2 := ((Ex.new f1).trans (Ex.new f2)).trans e2
  have hq2 : F2 q = some (.tup [.ref pin, .int 1]) := e2 _ _ ((Ex.new f2) _ _ upd_same)
  rcases hx with rfl | rfl | rfl
  · exact ⟨l, _, 0, .ref pin, rfl, rfl, SqL.of (k5.ex _ _ hF), rfl, hQ _ _ _ p q eq1 k5 hn hq2 (.inl ⟨rfl, rfl⟩)⟩
  · exact ⟨l, _, 1, .ref p, rfl, rfl, SqL.of (k5.ex _ _ hF), rfl, hQ _ _ _ p q eq1 k5 hn hq2 (.inr (.inl ⟨rfl, rfl⟩))⟩
  · exact ⟨l, _, 2, .ref q, rfl, rfl, SqL.of (k5.ex _ _ hF), rfl, hQ _ _ _ p q eq1 k5 hn hq2 (.inr (.inr ⟨rfl, rfl⟩))⟩
/-- what is drawn, as data -/
def oneG (inner : List PyData) (x : Int) : Option PyData := if x = 0 then some (.list inner) else if x = 1 then some (.dict [(.str "a", .list inner), (.str "b", .int 2)]) else if x = 2 then some (.tuple [.list inner, .int 1]) else none
/-- errors that bear a value are errors that bear its data -/
theorem exg_dz {d : PyData} : ∀ {vs : List V} {l : List (ErG V)}, Rs (rExG K L rRaw) F vs l → (∀ e ∈ l, rDz.r F e.pay d) → Rs (rExG K L rDz) F vs (l.map fun e => ⟨e.cls, d⟩)
  | _, _, .nil, _ => .nil
  | _, _, .cons r t, h => .cons (by
      obtain ⟨h0, a, dd, fs, pv, h1, h2, h3, h4, h5⟩ := r
      have h5 : pv = _ := h5
      subst h5
      exact ⟨h0, a, dd, fs, _, h1, h2, h3, h4, h _ List.mem_cons_self⟩) (exg_dz t fun e he => h e (List.mem_cons_of_mem _ he))
theorem exl_dz {d : PyData} {v : V} {l : List (ErG V)} (r : (rLst (rExG K L rRaw)).r F v l) (h : ∀ e ∈ l, rDz.r F e.pay d) : (rLst (rExG K L rDz)).r F v (l.map fun e => ⟨e.cls, d⟩) := by
  obtain ⟨a, vs, h1, h2, h3⟩ := r
  exact ⟨a, vs, h1, h2, exg_dz h3 h⟩
end
end Mw
namespace Mw
open PySem L2 PySem.Spec PyProof.Rows
/-- powers of greater numbers -/
def CPowW (i j : Int) : Prop := 0 ≤ j ∧ j ≤ 1000 ∧ i.natAbs < 2 ^ 1000
def powW (a b : Int) : Option Int := if 0 ≤ b ∧ b ≤ 1000 ∧ a.natAbs < 2 ^ 1000 then some (a ^ b.toNat) else none
theorem bitsW {a : Int} (h : a.natAbs < 2 ^ 1000) : Builtin.Int.intBits a ≤ 1000 := by
  unfold Builtin.Int.intBits
  split
  · exact Nat.zero_le _
  · rename_i z
    have nz : a.natAbs ≠ 0 := fun e => z (by simpa using Int.natAbs_eq_zero.mp e)
    exact (Nat.log2_lt nz).mpr h
theorem op_powW {X : Cx} : OpR X (binaryOp .Pow) (rI CPowW fun i j => .int (i ^ j.toNat)) := opI fun i j _ _ _ _ _ hc q => pow_int hc.1 (by
  have hb := bitsW hc.2.2
  have h1 : (Builtin.Int.intBits i : Int) * j ≤ 1000 * j := Int.mul_le_mul_of_nonneg_right (by omega) hc.1
  have := hc.2.1
  omega) q
theorem vo_powW : VO (rI CPowW fun i j => .int (i ^ j.toNat)) rInt rInt rInt powW := fun c F cs H v w a b d k r1 r2 q Q hQ => by
  unfold powW at q
  split at q
  · rename_i h
    cases q
    exact ⟨a, b, r1, r2, h, hQ _ F H (Evl.Ex.refl _) k rfl⟩
  · cases q
end Mw

set_option exponentiation.threshold 20000
set_option maxHeartbeats 2000000
/-! plain lemmas about the mirrors' words -/
namespace Pl
open PySem Mw L2
section
variable {α β γ ρ σ : Type}
@[simp] theorem bind_s {f : α → Option β} {a : α} : (some a).bind f = f a := id rfl
@[simp] theorem o1_s {g : α → Option γ} {a : α} : o1 g (some a) = g a := id rfl
@[simp] theorem o2_s {g : α → β → Option γ} {a : α} {b : β} : o2 g (some a) (some b) = g a b := id rfl
@[simp] theorem o3_s {g : α → β → γ → Option ρ} {a : α} {b : β} {c : γ} : o3 g (some a) (some b) (some c) = g a b c := id rfl
@[simp] theorem o4_s {g : α → β → γ → ρ → Option σ} {a : α} {b : β} {c : γ} {d : ρ} : o4 g (some a) (some b) (some c) (some d) = g a b c d := id rfl
@[simp] theorem sP_s {a : α} {s : γ} : sP (some a) s = some (a, s) := id rfl
@[simp] theorem sK_s {a : α} {s : γ} : sK s (some a) = some (a, s) := id rfl
@[simp] theorem sC_s {a : α} {s : γ} {f : α → γ → Option (β × γ)} : sC (some (a, s)) f = f a s := id rfl
@[simp] theorem s1_s {a : α} {s : γ} {f : α → γ → Option (ρ × γ)} : s1 f (some (a, s)) = f a s := id rfl
@[simp] theorem s2_s {a : α} {s : γ} {f : α → β → γ → Option (ρ × γ)} {m : γ → Option (β × γ)} : s2 f (some (a, s)) m = sC (m s) fun b s => f a b s := id rfl
@[simp] theorem oAnd_t {b : Option Bool} : oAnd (some true) b = b := id rfl
@[simp] theorem oAnd_f {b : Option Bool} : oAnd (some false) b = some false := id rfl
@[simp] theorem oOr_t {b : Option Bool} : oOr (some true) b = some true := id rfl
@[simp] theorem oOr_f {b : Option Bool} : oOr (some false) b = b := id rfl
@[simp] theorem oNot_s {a : Bool} : oNot (some a) = some (!a) := id rfl
@[simp] theorem oIf_t {a b : Option α} : oIf (some true) a b = a := id rfl
@[simp] theorem oIf_f {a b : Option α} : oIf (some false) a b = b := id rfl
@[simp] theorem sAnd_t {s : γ} {b : γ → Option (Bool × γ)} : sAnd (some (true, s)) b = b s := id rfl
@[simp] theorem sAnd_f {s : γ} {b : γ → Option (Bool × γ)} : sAnd (some (false, s)) b = some (false, s) := id rfl
@[simp] theorem sOr_t {s : γ} {b : γ → Option (Bool × γ)} : sOr (some (true, s)) b = some (true, s) := id rfl
@[simp] theorem sOr_f {s : γ} {b : γ → Option (Bool × γ)} : sOr (some (false, s)) b = b s := id rfl
@[simp] theorem sNot_s {a : Bool} {s : γ} : sNot (some (a, s)) = some (!a, s) := id rfl
@[simp] theorem oCons_s {a : α} {l : List α} : oCons (some a) (some l) = some (a :: l) := id rfl
@[simp] theorem sCons_s {a : α} {s : γ} {l : γ → Option (List α × γ)} : sCons (some (a, s)) l = sC (l s) fun r s => some (a :: r, s) := id rfl
@[simp] theorem oP2_s {a : α} {b : β} : oP2 (some a) (some b) = some (a, b) := id rfl
@[simp] theorem oP3_s {a : α} {b : β} {c : γ} : oP3 (some a) (some b) (some c) = some (a, b, c) := id rfl
@[simp] theorem addG_s {a b : Int} : addG a b = some (a + b) := id rfl
@[simp] theorem subG_s {a b : Int} : subG a b = some (a - b) := id rfl
@[simp] theorem ltG_s {a b : Int} : ltG a b = some (decide (a < b)) := id rfl
@[simp] theorem leG_s {a b : Int} : leG a b = some (decide (a ≤ b)) := id rfl
@[simp] theorem gtG_s {a b : Int} : gtG a b = some (decide (b < a)) := id rfl
@[simp] theorem geG_s {a b : Int} : geG a b = some (decide (b ≤ a)) := id rfl
@[simp] theorem eqG_s {α : Type} [DecidableEq α] {a b : α} : eqG a b = some (decide (a = b)) := id rfl
@[simp] theorem neG_s {α : Type} [DecidableEq α] {a b : α} : neG a b = some (!decide (a = b)) := id rfl
@[simp] theorem absG_s {a : Int} : absG a = some (a.natAbs : Int) := by unfold absG; congr 1; split <;> omega
@[simp] theorem abs_if {a : Int} : (if a < 0 then -a else a) = (a.natAbs : Int) := by split <;> omega
@[simp] theorem negG_s {a : Int} : negG a = some (-a) := id rfl
@[simp] theorem maxG_s {a b : Int} : maxG a b = some (max a b) := by unfold maxG; congr 1; split <;> omega
@[simp] theorem minG_s {a b : Int} : minG a b = some (min a b) := by unfold minG; congr 1; split <;> omega
@[simp] theorem lenG_s {l : List α} : lenG l = some (l.length : Int) := id rfl
@[simp] theorem inG_s {a : Int} {l : List Int} : inG a l = some (decide (a ∈ l)) := id rfl
@[simp] theorem notInG_s {a : Int} {l : List Int} : notInG a l = some (!decide (a ∈ l)) := id rfl
theorem modG_s {a b : Int} (h : 0 < b) : modG a b = some (a % b) := if_pos h
theorem divG_s {a b : Int} {n : Nat} (h : 0 < b) (hb : b < 2 ^ n) (hn : n ≤ 9000) (h0 : 0 < n := by decide) : divG a b = some (a / b) := if_pos ⟨h, by
  have e : ((2 ^ n : Nat) : Int) = (2 : Int) ^ n := by rw [Int.natCast_pow] <;> rfl
  have q : b.natAbs < 2 ^ n := by omega
  have z := PySem.Flt.log2_lt_of h0 q
  omega⟩
theorem mulG_r {a b : Int} (h : b.natAbs < 2 ^ 64) : mulG a b = some (a * b) := if_pos (.inr (.inl h))
theorem szG_s {l : List α} (h : l.length ≤ 16000000) : szG l = some l := if_pos h
theorem catG_s {a b : List α} (h : a.length + b.length ≤ 16000000) : catG a b = some (a ++ b) := if_pos h
theorem appG_s {a : List α} {x : α} (h : a.length ≤ 16000000) : appG a x = some (a ++ [x]) := if_pos h
theorem rngG_s {n : Int} (h : -(2 ^ 62) ≤ n) (h2 : n < 2 ^ 62) : rngG n = some (rngL 0 n) := if_pos ⟨h, h2⟩
@[simp] theorem cut_nn {l : List α} : cut l none none = l := by
  unfold cut
  simp [HT.sIx]
theorem cut_to {l : List α} {n : Nat} : cut l none (some (n : Int)) = l.take n := by
  unfold cut
  rw [HT.sIx_none, HT.sIx_nat, List.drop_zero, Nat.sub_zero]
  by_cases h : n ≤ l.length
  · rw [Nat.min_eq_left h]
  · rw [Nat.min_eq_right (by omega), List.take_of_length_le (Nat.le_refl _), List.take_of_length_le (by omega)]
theorem oCut_s {l : List α} {a b : Option Int} : oCut (some l) (some a) (some b) = some (cut l a b) := id rfl
/-! indices -/
theorem ixG_nat {l : List α} {i : Nat} {x : α} (h : l[i]? = some x) : ixG l (i : Int) = some x := atI_nat h
theorem ixG_at {l : List α} {i : Int} (h0 : 0 ≤ i) (h : i < l.length) : ixG l i = some (l[i.toNat]'(by omega)) := by
  obtain ⟨n, rfl⟩ : ∃ n : Nat, i = (n : Int) := ⟨i.toNat, by omega⟩
  exact ixG_nat (by simp)
@[simp] theorem ix0 {a : α} {l : List α} : ixG (a :: l) 0 = some a := ixG_nat (i := 0) rfl
@[simp] theorem ix1 {a b : α} {l : List α} : ixG (a :: b :: l) 1 = some b := ixG_nat (i := 1) rfl
@[simp] theorem ix2 {a b c : α} {l : List α} : ixG (a :: b :: c :: l) 2 = some c := ixG_nat (i := 2) rfl
theorem setG_nat {l : List α} {i : Nat} {x : α} (h : i < l.length) : setG l (i : Int) x = some (l.set i x) := by
  unfold setG ixN
  rw [if_pos (by omega), if_pos (by omega)]
  simp
@[simp] theorem set0 {a x : α} {l : List α} : setG (a :: l) 0 x = some (x :: l) := setG_nat (i := 0) (by simp)
@[simp] theorem set1 {a b x : α} {l : List α} : setG (a :: b :: l) 1 x = some (a :: x :: l) := setG_nat (i := 1) (by simp)
@[simp] theorem set2 {a b c x : α} {l : List α} : setG (a :: b :: c :: l) 2 x = some (a :: b :: x :: l) := setG_nat (i := 2) (by simp)
/-! loops -/
/-- a search that finds nothing -/
theorem loop_go {f : α → γ → Option (Lp γ ρ)} (I : List α → γ → Prop) : ∀ (l : List α) (g : γ), I l g → (∀ a l g, I (a :: l) g → ∃ g', f a g = some (.go g') ∧ I l g') → ∃ g', oLoop f l g = some (.nx g') ∧ I [] g'
  | [], g, h, _ => ⟨g, rfl, h⟩
  | a :: l, g, h, hs => by
    obtain ⟨g', h1, h2⟩ := hs a l g h
    obtain ⟨g'', h3, h4⟩ := loop_go I l g' h2 hs
    refine ⟨g'', ?_, h4⟩
    show ((f a g).bind _) = _
    rw [h1]
    exact h3
theorem loop_unit {f : α → Unit → Option (Lp Unit ρ)} {l : List α} (h : ∀ a ∈ l, f a () = some (.go ())) : oLoop f l () = some (.nx ()) := by
  obtain ⟨g, h1, _⟩ := loop_go (f := f) (fun l' _ => ∀ a ∈ l', a ∈ l) l () (fun a ha => ha) fun a l' g ha => ⟨(), h a (ha a List.mem_cons_self), fun b hb => ha b (List.mem_cons_of_mem _ hb)⟩
  cases g
  exact h1
theorem rngL_mem {lo hi i : Int} (h : i ∈ rngL lo hi) : lo ≤ i ∧ i < hi := by
  unfold rngL at h
  obtain ⟨k, h1, h2⟩ := List.mem_map.mp h
  have := List.mem_range.mp h1
  omega
end
/-! ### what a mirror's word answers -/
section
variable {α β γ ρ : Type}
def W (m : Option α) (Q : α → Prop) : Prop := ∃ d, m = some d ∧ Q d
theorem W_some {d : α} {Q : α → Prop} (h : Q d) : W (some d) Q := ⟨d, rfl, h⟩
theorem W_eq {m : Option α} {d : α} {Q : α → Prop} (e : m = some d) (h : Q d) : W m Q := ⟨d, e, h⟩
theorem W_bind {m : Option α} {f : α → Option β} {Q : β → Prop} (h : W m fun d => W (f d) Q) : W (m.bind f) Q := by
  obtain ⟨d, rfl, d2, e2, q⟩ := h
  exact ⟨d2, e2, q⟩
theorem W_beq {m : Option α} {f : α → Option β} {d : α} {Q : β → Prop} (e : m = some d) (h : W (f d) Q) : W (m.bind f) Q := W_bind (W_eq e h)
theorem W_is {m : Option α} {d : α} (h : W m fun x => x = d) : m = some d := by
  obtain ⟨a, rfl, p⟩ := h
  rw [p]
theorem W_ix {l : List α} {i : Int} {Q : α → Prop} (h0 : 0 ≤ i) (h1 : i < l.length) (h : ∀ a, a ∈ l → Q a) : W (ixG l i) Q := W_eq (ixG_at h0 h1) (h _ (List.getElem_mem _))
/-- a search over all, each of which lets it go on -/
theorem W_all {f : α → Unit → Option (Lp Unit ρ)} {Q : Out Unit ρ → Prop} {l : List α} (hs : ∀ a ∈ l, W (f a ()) fun o => o = .go ()) (hq : Q (.nx ())) : W (oLoop f l ()) Q := by
  have e : oLoop f l () = some (.nx ()) := loop_unit fun a ha => W_is (hs a ha)
  exact ⟨_, e, hq⟩
end
/-! ### Euclid -/
/-! searches, lists by index -/
section
variable {α β ρ : Type}
@[simp] theorem rngW_s {a b : Int} : rngW a b = some (rngL a b) := id rfl
@[simp] theorem oApp_s {a l : List α} : oApp (some a) (some l) = some (a ++ l) := id rfl
@[simp] theorem map_s {f : α → β} {a : α} : Option.map f (some a) = some (f a) := id rfl
end
theorem rngL_cons {a b : Int} (h : a < b) : rngL a b = a :: rngL (a + 1) b := by
  unfold rngL
  rw [show (b - a).toNat = (b - (a + 1)).toNat + 1 by omega, List.range_succ_eq_map, List.map_cons, List.map_map]
  congr 1
  · omega
  · exact List.map_congr_left fun i _ => by show a + ((i + 1 : Nat) : Int) = a + 1 + (i : Int); omega
theorem rngL_nil' {a b : Int} (h : b ≤ a) : rngL a b = [] := by
  unfold rngL
  rw [show (b - a).toNat = 0 by omega]
  rfl
section
variable {β γ : Type}
theorem smapR {f : Int → γ → Option (β × γ)} (I : Nat → γ → Prop) (B : β → Prop) {N : Nat} (hs : ∀ i g, i < N → I i g → W (f (i : Int) g) fun r => B r.1 ∧ I (i + 1) r.2) : ∀ (k j : Nat) (g : γ), j + k = N → I j g → ∃ xs g', sMap f (rngL (j : Int) (N : Int)) g = some (xs, g') ∧ xs.length = k ∧ (∀ x ∈ xs, B x) ∧ I N g'
  | 0, j, g, e, h => by
    have e : j = N := e
    subst e
    rw [rngL_nil' (Int.le_refl _)]
    exact ⟨[], g, rfl, rfl, fun x hx => absurd hx List.not_mem_nil, h⟩
  | k + 1, j, g, e, h => by
    rw [rngL_cons (by omega)]
    obtain ⟨⟨x, g1⟩, e1, b1, h1⟩ := hs j g (by omega) h
    obtain ⟨xs, g2, e2, l2, b2, h2⟩ := smapR I B hs k (j + 1) g1 (by omega) h1
    have ej : (j : Int) + 1 = ((j + 1 : Nat) : Int) := by omega
    refine ⟨x :: xs, g2, ?_, by rw [List.length_cons, l2], fun y hy => ?_, h2⟩
    · simp only [sMap, e1, sC_s, ej, e2]
    · rcases List.mem_cons.mp hy with rfl | hy
      · exact b1
      · exact b2 y hy
theorem W_slcR {f : Int → γ → Option (β × γ)} {Q : List β × γ → Prop} (I : Nat → γ → Prop) (B : β → Prop) {N : Nat} {g : γ} (hN : N ≤ 16000000) (h : I 0 g) (hs : ∀ i g, i < N → I i g → W (f (i : Int) g) fun r => B r.1 ∧ I (i + 1) r.2) (hq : ∀ xs g', xs.length = N → (∀ x ∈ xs, B x) → I N g' → Q (xs, g')) : W (sLc f (rngL 0 (N : Int)) g) Q := by
  obtain ⟨xs, g', e, l, b, i⟩ := smapR I B hs N 0 g (Nat.zero_add _) h
  unfold sLc
  rw [if_pos (by rw [rngL_len]; omega)]
  exact ⟨_, e, hq xs g' l b i⟩
end
/-! types whose data are always as they stand: == and in answer -/
section
class SkA (α : Type) [Sk α] : Prop where
  all : ∀ a : α, Sk.ok a = true
instance : SkA Int := ⟨fun _ => rfl⟩
instance : SkA Bool := ⟨fun _ => rfl⟩
instance : SkA Unit := ⟨fun _ => rfl⟩
instance {α : Type} [Sk α] [SkA α] : SkA (List α) := ⟨fun l => List.all_eq_true.mpr fun a _ => SkA.all a⟩
instance {α β : Type} [Sk α] [Sk β] [SkA α] [SkA β] : SkA (α × β) := ⟨fun p => Bool.and_eq_true_iff.mpr ⟨SkA.all p.1, SkA.all p.2⟩⟩
instance {α : Type} [Sk α] [SkA α] : SkA (Option α) := ⟨fun o => match o with
  | none => rfl
  | some a => SkA.all a⟩
variable {α : Type} [DecidableEq α] [Sk α] [SkA α]
theorem eqDG_s (a b : α) : eqDG a b = some (decide (a = b)) := if_pos ⟨SkA.all a, SkA.all b⟩
end
end Pl

set_option maxHeartbeats 1000000
/-! numbers: primes, what divides, inverses, two remainders at once; no program -/
namespace Nt
def Prm (p : Nat) : Prop := 2 ≤ p ∧ ∀ d, d ∣ p → d = 1 ∨ d = p
theorem Prm.pos {p : Nat} (h : Prm p) : 0 < p := by have := h.1; omega
theorem Prm.coprime {p a : Nat} (h : Prm p) (ha : ¬ p ∣ a) : Nat.Coprime p a := by
  rcases h.2 _ (Nat.gcd_dvd_left p a) with e | e
  · exact e
  · exact absurd (e ▸ Nat.gcd_dvd_right p a) ha
theorem Prm.coprime2 {p q : Nat} (h : Prm p) (hq : Prm q) (n : p ≠ q) : Nat.Coprime p q := h.coprime fun d => by
  rcases hq.2 p d with e | e
  · have := h.1; omega
  · exact n e
theorem exists_prm : ∀ n : Nat, 2 ≤ n → ∃ p, Prm p ∧ p ∣ n := by
  intro n
  induction n using Nat.strongRecOn with
  | ind n ih =>
    intro hn
    by_cases q : Prm n
    · exact ⟨n, q, Nat.dvd_refl n⟩
    · have : ∃ d, d ∣ n ∧ d ≠ 1 ∧ d ≠ n := Classical.byContradiction fun z => q ⟨hn, fun d hd => by
        by_cases e1 : d = 1
        · exact .inl e1
        · by_cases e2 : d = n
          · exact .inr e2
          · exact absurd ⟨d, hd, e1, e2⟩ z⟩
      obtain ⟨d, hd, n1, n2⟩ := this
      have h1 := Nat.le_of_dvd (by omega) hd
      have h0 : d ≠ 0 := fun e => by
        subst e
        have := Nat.eq_zero_of_zero_dvd hd
        omega
      obtain ⟨p, hp, hpd⟩ := ih d (by omega) (by omega)
      exact ⟨p, hp, Nat.dvd_trans hpd hd⟩
/-- what the primes' loop knows: all primes below q are found, m is what is left -/
structure PI (N : Nat) (found : List Nat) (m q : Nat) : Prop where
  q2 : 2 ≤ q
  m1 : 1 ≤ m
  mN : m ≤ N
  asc : found.Pairwise (· < ·)
  mem : ∀ p, p ∈ found ↔ Prm p ∧ p ∣ N ∧ p < q
  up : ∀ p, Prm p → q ≤ p → (p ∣ N ↔ p ∣ m)
  dn : ∀ p, Prm p → p < q → ¬ p ∣ m
/-- the ascending list of the primes that divide N -/
structure PD (N : Nat) (l : List Nat) : Prop where
  asc : l.Pairwise (· < ·)
  mem : ∀ p, p ∈ l ↔ Prm p ∧ p ∣ N
theorem PI.start {N : Nat} (h : 1 ≤ N) : PI N [] N 2 := ⟨Nat.le_refl _, h, Nat.le_refl _, .nil, fun p => ⟨fun q => (by cases q), fun q => by have := q.1.1; omega⟩, fun p _ _ => Iff.rfl, fun p hp q => by have := hp.1; omega⟩
theorem PI.skip {N m q : Nat} {l : List Nat} (h : PI N l m q) (hq : ¬ q ∣ m) : PI N l m (q + 1) := by
  refine ⟨by have := h.q2; omega, h.m1, h.mN, h.asc, fun p => ?_, fun p hp hl => h.up p hp (by omega), fun p hp hl => ?_⟩
  · rw [h.mem p]
    constructor
    · rintro ⟨a, b, c⟩
      exact ⟨a, b, by omega⟩
    · rintro ⟨a, b, c⟩
      refine ⟨a, b, ?_⟩
      by_cases e : p = q
      · subst e
        exact absurd ((h.up p a (Nat.le_refl _)).mp b) hq
      · omega
  · by_cases e : p = q
    · subst e
      exact hq
    · exact h.dn p hp (by omega)
theorem PI.prm {N m q : Nat} {l : List Nat} (h : PI N l m q) (hq : q ∣ m) : Prm q := by
  obtain ⟨p, hp, hd⟩ := exists_prm q h.q2
  have h1 := Nat.le_of_dvd (by have := h.q2; omega) hd
  by_cases e : p = q
  · exact e ▸ hp
  · exact absurd (Nat.dvd_trans hd hq) (h.dn p hp (by omega))
/-- q divides; m' is m without q -/
theorem PI.take {N m m' q k : Nat} {l : List Nat} (h : PI N l m q) (hq : q ∣ m) (e : m = q ^ k * m') (hn : ¬ q ∣ m') : PI N (l ++ [q]) m' (q + 1) := by
  have hp := h.prm hq
  have m0 : 1 ≤ m' := by
    rcases Nat.eq_zero_or_pos m' with z | z
    · subst z
      exact absurd (Nat.dvd_zero q) hn
    · exact z
  have hle : m' ≤ m := by rw [e]; exact Nat.le_mul_of_pos_left _ (Nat.pow_pos hp.pos)
  have other : ∀ p, Prm p → p ≠ q → (p ∣ m ↔ p ∣ m') := fun p hp2 ne => by
    constructor
    · intro hd
      rw [e] at hd
      have : ∀ k, p ∣ q ^ k * m' → p ∣ m' := by
        intro k
        induction k with
        | zero => intro z; simpa using z
        | succ k ih =>
          intro z
          rw [Nat.pow_succ, Nat.mul_assoc] at z
          have z2 : p ∣ q * (q ^ k * m') := by
            have e3 : q ^ k * (q * m') = q * (q ^ k * m') := by rw [Nat.mul_left_comm]
            rw [← e3]
            exact z
          exact ih (Nat.Coprime.dvd_of_dvd_mul_left (hp2.coprime2 hp ne) z2)
      exact this k hd
    · intro hd
      rw [e]
      exact Nat.dvd_trans hd (Nat.dvd_mul_left _ _)
  refine ⟨by have := h.q2; omega, m0, by have := h.mN; omega, ?_, fun p => ?_, fun p hp2 hl => ?_, fun p hp2 hl => ?_⟩
  · rw [List.pairwise_append]
    refine ⟨h.asc, List.pairwise_singleton _ _, fun a ha b hb => ?_⟩
    have := ((h.mem a).mp ha).2.2
    have e : b = q := by simpa using hb
    omega
  · rw [List.mem_append, h.mem p]
    constructor
    · rintro (⟨a, b, c⟩ | z)
      · exact ⟨a, b, by omega⟩
      · have e : p = q := by simpa using z
        subst e
        exact ⟨hp, (h.up p hp (Nat.le_refl _)).mpr hq, by omega⟩
    · rintro ⟨a, b, c⟩
      by_cases e : p = q
      · subst e
        exact .inr (by simp)
      · exact .inl ⟨a, b, by omega⟩
  · rw [h.up p hp2 (by omega), other p hp2 (by omega)]
  · by_cases e : p = q
    · subst e
      exact hn
    · exact fun z => h.dn p hp2 (by omega) ((other p hp2 e).mpr z)
/-- two ascending lists of the same numbers are one -/
theorem asc_eq : ∀ {l r : List Nat}, l.Pairwise (· < ·) → r.Pairwise (· < ·) → (∀ p, p ∈ l ↔ p ∈ r) → l = r
  | [], [], _, _, _ => rfl
  | [], b :: r, _, _, h => absurd ((h b).mpr (by simp)) (by simp)
  | a :: l, [], _, _, h => absurd ((h a).mp (by simp)) (by simp)
  | a :: l, b :: r, hl, hr, h => by
    rw [List.pairwise_cons] at hl hr
    have e : a = b := by
      rcases List.mem_cons.mp ((h a).mp (by simp)) with e | e
      · exact e
      · rcases List.mem_cons.mp ((h b).mpr (by simp)) with e2 | e2
        · exact e2.symm
        · have h1 := hr.1 a e
          have h2 := hl.1 b e2
          omega
    subst e
    refine congrArg (a :: ·) (asc_eq hl.2 hr.2 fun p => ?_)
    have hp := h p
    rw [List.mem_cons, List.mem_cons] at hp
    constructor
    · intro z
      rcases hp.mp (.inr z) with e | e
      · have := hl.1 p z
        omega
      · exact e
    · intro z
      rcases hp.mpr (.inr z) with e | e
      · have := hr.1 p z
        omega
      · exact e
theorem PD.eq {N : Nat} {l r : List Nat} (h : PD N l) (g : PD N r) : l = r := asc_eq h.asc g.asc fun p => (h.mem p).trans (g.mem p).symm
theorem PD.prm {N : Nat} {l : List Nat} (h : PD N l) {p : Nat} (hp : p ∈ l) : Prm p := ((h.mem p).mp hp).1
theorem PD.dvd {N : Nat} {l : List Nat} (h : PD N l) {p : Nat} (hp : p ∈ l) : p ∣ N := ((h.mem p).mp hp).2
theorem PD.nil {N : Nat} {l : List Nat} (h : PD N l) (hN : 2 ≤ N) : l ≠ [] := fun e => by
  obtain ⟨p, hp, hd⟩ := exists_prm N hN
  have := (h.mem p).mpr ⟨hp, hd⟩
  rw [e] at this
  cases this
theorem PD.one {l : List Nat} (h : PD 1 l) : l = [] := by
  cases l with
  | nil => rfl
  | cons a l =>
    have h1 := h.dvd (p := a) (by simp)
    have h2 := Nat.le_of_dvd (by decide) h1
    have := (h.prm (p := a) (by simp)).1
    omega
/-! q taken out -/
/-! Bezout -/
end Nt
namespace Nt
open Mw Pl
/-! sums over a range -/
/-! terms (modulus, remainder, sign) -/
def ind (m o t : Int) : Int := if m ∣ t - o then 1 else 0
end Nt

set_option maxHeartbeats 2000000
namespace Mi
open PySem L2 Mw
def m_trough (cell : Int) (k_ : Int) : Option (List Int) :=
  (o2 maxG (some cell) (some (0 - cell))).bind fun (size : Int) =>
  (o1 szG (oCons (o2 maxG (some 0) (some (size - ((10 : Int) ^ 18)))) (oCons (o2 modG (o1 some (o2 addG (o2 mulG (some cell) (some 256203221)) (o2 mulG (some (k_ + 17)) (some 15487039)))) (some (((10 : Int) ^ 25) + 813))) (oCons (some 0) (some []))))).bind fun rv => some rv
def m_ladle (trough_here : (List Int)) (many : Int) : Option (Int × (List Int)) :=
  (o2 gtG (o2 ixG (some trough_here) (some 0)) (some 1)).bind fun b => if b = true then
    (o2 modG (o1 some (o2 ixG (some trough_here) (some 0))) (some many)).bind fun (drawn : Int) =>
    (o2 divG (o2 ixG (some trough_here) (some 0)) (some many)).bind fun val => (some 0).bind fun ix => (setG trough_here ix val).bind fun (trough_here : (List Int)) =>
    (some drawn).bind fun rv => some (rv, trough_here)
  else
    (o2 addG (o2 ixG (some trough_here) (some 2)) (some 1)).bind fun val => (some 2).bind fun ix => (setG trough_here ix val).bind fun (trough_here : (List Int)) =>
    (o2 modG (o1 some (o2 powW (o2 addG (o2 ixG (some trough_here) (some 1)) (o2 mulG (o2 ixG (some trough_here) (some 2)) (some 67867967))) (some 3))) (some (((10 : Int) ^ 27) + 747))).bind fun (churned : Int) =>
    (o2 modG (o2 divG (o2 modG (o1 some (o2 addG (o2 powW (some churned) (some 2)) (o2 divG (some churned) (some 8231)))) (some (((10 : Int) ^ 23) + 477))) (some 10067)) (some many)).bind fun rv => some (rv, trough_here)
def m_thing_0 (trough_here : (List Int)) (deep : Int) : Option (PyData × (List Int)) :=
  (s1 (fun a0 s => m_ladle s a0) (sP (oIf (some (decide (deep < 3))) (some 9) (some 6)) trough_here)).bind fun ((shape, trough_here) : Int × (List Int)) =>
  (some (decide (shape = 0))).bind fun b => if b = true then
    (some PyData.none).bind fun rv => some (rv, trough_here)
  else
    (some (decide (shape = 1))).bind fun b => if b = true then
      (Option.map (fun r => (PyData.bool r.1, r.2)) (s2 (fun a b s => sK s (eqG a b)) (s1 (fun a0 s => m_ladle s a0) (sP (some 2) trough_here)) fun trough_here => (sP (some 0) trough_here)))
    else
      (some (decide (shape = 2))).bind fun b => if b = true then
        (Option.map (fun r => (PyData.int r.1, r.2)) (s2 (fun a b s => sK s (addG a b)) (s2 (fun a b s => sK s (ixG a b)) (sP (some [0, 1, (0 - 8), ((10 : Int) ^ 40), (0 - ((10 : Int) ^ 37))]) trough_here) fun trough_here => (s1 (fun a0 s => m_ladle s a0) (sP (some 5) trough_here))) fun trough_here => (s1 (fun a0 s => m_ladle s a0) (sP (some 9) trough_here))))
      else
        (some (decide (shape = 3))).bind fun b => if b = true then
          (Option.map (fun r => (PyData.str r.1, r.2)) (s2 (fun a b s => sK s (mulS a b)) (s2 (fun a b s => sK s (ixG a b)) (sP (some [("" : PySem.Str), ("post" : PySem.Str), ("1  2" : PySem.Str), ("~ |" : PySem.Str), ("'" : PySem.Str), ("(0,1)" : PySem.Str)]) trough_here) fun trough_here => (s1 (fun a0 s => m_ladle s a0) (sP (some 6) trough_here))) fun trough_here => (s2 (fun a b s => sK s (addG a b)) (sP (some 1) trough_here) fun trough_here => (s1 (fun a0 s => m_ladle s a0) (sP (some 14) trough_here)))))
        else
          (some (decide (shape = 4))).bind fun b => if b = true then
            (s2 (fun a b s => sK s (ixG a b)) (sP (some [(PyData.list []), (PyData.dict [])]) trough_here) fun trough_here => (s1 (fun a0 s => m_ladle s a0) (sP (some 2) trough_here)))
          else
            (some (decide (shape = 5))).bind fun b => if b = true then
              (some (PyData.tuple [])).bind fun rv => some (rv, trough_here)
            else
              none
def m_thing_1 (trough_here : (List Int)) (deep : Int) : Option (PyData × (List Int)) :=
  (s1 (fun a0 s => m_ladle s a0) (sP (oIf (some (decide (deep < 3))) (some 9) (some 6)) trough_here)).bind fun ((shape, trough_here) : Int × (List Int)) =>
  (some (decide (shape = 0))).bind fun b => if b = true then
    (some PyData.none).bind fun rv => some (rv, trough_here)
  else
    (some (decide (shape = 1))).bind fun b => if b = true then
      (Option.map (fun r => (PyData.bool r.1, r.2)) (s2 (fun a b s => sK s (eqG a b)) (s1 (fun a0 s => m_ladle s a0) (sP (some 2) trough_here)) fun trough_here => (sP (some 0) trough_here)))
    else
      (some (decide (shape = 2))).bind fun b => if b = true then
        (Option.map (fun r => (PyData.int r.1, r.2)) (s2 (fun a b s => sK s (addG a b)) (s2 (fun a b s => sK s (ixG a b)) (sP (some [0, 1, (0 - 8), ((10 : Int) ^ 40), (0 - ((10 : Int) ^ 37))]) trough_here) fun trough_here => (s1 (fun a0 s => m_ladle s a0) (sP (some 5) trough_here))) fun trough_here => (s1 (fun a0 s => m_ladle s a0) (sP (some 9) trough_here))))
      else
        (some (decide (shape = 3))).bind fun b => if b = true then
          (Option.map (fun r => (PyData.str r.1, r.2)) (s2 (fun a b s => sK s (mulS a b)) (s2 (fun a b s => sK s (ixG a b)) (sP (some [("" : PySem.Str), ("post" : PySem.Str), ("1  2" : PySem.Str), ("~ |" : PySem.Str), ("'" : PySem.Str), ("(0,1)" : PySem.Str)]) trough_here) fun trough_here => (s1 (fun a0 s => m_ladle s a0) (sP (some 6) trough_here))) fun trough_here => (s2 (fun a b s => sK s (addG a b)) (sP (some 1) trough_here) fun trough_here => (s1 (fun a0 s => m_ladle s a0) (sP (some 14) trough_here)))))
        else
          (some (decide (shape = 4))).bind fun b => if b = true then
            (s2 (fun a b s => sK s (ixG a b)) (sP (some [(PyData.list []), (PyData.dict [])]) trough_here) fun trough_here => (s1 (fun a0 s => m_ladle s a0) (sP (some 2) trough_here)))
          else
            (some (decide (shape = 5))).bind fun b => if b = true then
              (some (PyData.tuple [])).bind fun rv => some (rv, trough_here)
            else
              (sC (s1 (fun a s => sK s (rngG a)) (s2 (fun a b s => sK s (addG a b)) (sP (some 1) trough_here) fun trough_here => (s1 (fun a0 s => m_ladle s a0) (sP (some 3) trough_here)))) fun l trough_here => sLc (fun (turn : Int) => fun trough_here => (s1 (fun a0 s => m_thing_0 s a0) (sP (some (deep + 1)) trough_here))) l trough_here).bind fun ((parts, trough_here) : (List PyData) × (List Int)) =>
              (some (decide (shape = 6))).bind fun b => if b = true then
                (some (PyData.list parts)).bind fun rv => some (rv, trough_here)
              else
                (some (decide (shape = 7))).bind fun b => if b = true then
                  (some (PyData.tuple parts)).bind fun rv => some (rv, trough_here)
                else
                  ((some (PyData.list parts)).bind fun a => (Option.map (fun r => (PyData.int r.1, r.2)) (s1 (fun a0 s => m_ladle s a0) (sP (some 11) trough_here))).bind fun r => some (PyData.dict [(PyData.str "seen", a), (PyData.str "hidden", r.1)], r.2))
def m_thing_2 (trough_here : (List Int)) (deep : Int) : Option (PyData × (List Int)) :=
  (s1 (fun a0 s => m_ladle s a0) (sP (oIf (some (decide (deep < 3))) (some 9) (some 6)) trough_here)).bind fun ((shape, trough_here) : Int × (List Int)) =>
  (some (decide (shape = 0))).bind fun b => if b = true then
    (some PyData.none).bind fun rv => some (rv, trough_here)
  else
    (some (decide (shape = 1))).bind fun b => if b = true then
      (Option.map (fun r => (PyData.bool r.1, r.2)) (s2 (fun a b s => sK s (eqG a b)) (s1 (fun a0 s => m_ladle s a0) (sP (some 2) trough_here)) fun trough_here => (sP (some 0) trough_here)))
    else
      (some (decide (shape = 2))).bind fun b => if b = true then
        (Option.map (fun r => (PyData.int r.1, r.2)) (s2 (fun a b s => sK s (addG a b)) (s2 (fun a b s => sK s (ixG a b)) (sP (some [0, 1, (0 - 8), ((10 : Int) ^ 40), (0 - ((10 : Int) ^ 37))]) trough_here) fun trough_here => (s1 (fun a0 s => m_ladle s a0) (sP (some 5) trough_here))) fun trough_here => (s1 (fun a0 s => m_ladle s a0) (sP (some 9) trough_here))))
      else
        (some (decide (shape = 3))).bind fun b => if b = true then
          (Option.map (fun r => (PyData.str r.1, r.2)) (s2 (fun a b s => sK s (mulS a b)) (s2 (fun a b s => sK s (ixG a b)) (sP (some [("" : PySem.Str), ("post" : PySem.Str), ("1  2" : PySem.Str), ("~ |" : PySem.Str), ("'" : PySem.Str), ("(0,1)" : PySem.Str)]) trough_here) fun trough_here => (s1 (fun a0 s => m_ladle s a0) (sP (some 6) trough_here))) fun trough_here => (s2 (fun a b s => sK s (addG a b)) (sP (some 1) trough_here) fun trough_here => (s1 (fun a0 s => m_ladle s a0) (sP (some 14) trough_here)))))
        else
          (some (decide (shape = 4))).bind fun b => if b = true then
            (s2 (fun a b s => sK s (ixG a b)) (sP (some [(PyData.list []), (PyData.dict [])]) trough_here) fun trough_here => (s1 (fun a0 s => m_ladle s a0) (sP (some 2) trough_here)))
          else
            (some (decide (shape = 5))).bind fun b => if b = true then
              (some (PyData.tuple [])).bind fun rv => some (rv, trough_here)
            else
              (sC (s1 (fun a s => sK s (rngG a)) (s2 (fun a b s => sK s (addG a b)) (sP (some 1) trough_here) fun trough_here => (s1 (fun a0 s => m_ladle s a0) (sP (some 3) trough_here)))) fun l trough_here => sLc (fun (turn : Int) => fun trough_here => (s1 (fun a0 s => m_thing_1 s a0) (sP (some (deep + 1)) trough_here))) l trough_here).bind fun ((parts, trough_here) : (List PyData) × (List Int)) =>
              (some (decide (shape = 6))).bind fun b => if b = true then
                (some (PyData.list parts)).bind fun rv => some (rv, trough_here)
              else
                (some (decide (shape = 7))).bind fun b => if b = true then
                  (some (PyData.tuple parts)).bind fun rv => some (rv, trough_here)
                else
                  ((some (PyData.list parts)).bind fun a => (Option.map (fun r => (PyData.int r.1, r.2)) (s1 (fun a0 s => m_ladle s a0) (sP (some 11) trough_here))).bind fun r => some (PyData.dict [(PyData.str "seen", a), (PyData.str "hidden", r.1)], r.2))
def m_thing (trough_here : (List Int)) (deep : Int) : Option (PyData × (List Int)) :=
  (s1 (fun a0 s => m_ladle s a0) (sP (oIf (some (decide (deep < 3))) (some 9) (some 6)) trough_here)).bind fun ((shape, trough_here) : Int × (List Int)) =>
  (some (decide (shape = 0))).bind fun b => if b = true then
    (some PyData.none).bind fun rv => some (rv, trough_here)
  else
    (some (decide (shape = 1))).bind fun b => if b = true then
      (Option.map (fun r => (PyData.bool r.1, r.2)) (s2 (fun a b s => sK s (eqG a b)) (s1 (fun a0 s => m_ladle s a0) (sP (some 2) trough_here)) fun trough_here => (sP (some 0) trough_here)))
    else
      (some (decide (shape = 2))).bind fun b => if b = true then
        (Option.map (fun r => (PyData.int r.1, r.2)) (s2 (fun a b s => sK s (addG a b)) (s2 (fun a b s => sK s (ixG a b)) (sP (some [0, 1, (0 - 8), ((10 : Int) ^ 40), (0 - ((10 : Int) ^ 37))]) trough_here) fun trough_here => (s1 (fun a0 s => m_ladle s a0) (sP (some 5) trough_here))) fun trough_here => (s1 (fun a0 s => m_ladle s a0) (sP (some 9) trough_here))))
      else
        (some (decide (shape = 3))).bind fun b => if b = true then
          (Option.map (fun r => (PyData.str r.1, r.2)) (s2 (fun a b s => sK s (mulS a b)) (s2 (fun a b s => sK s (ixG a b)) (sP (some [("" : PySem.Str), ("post" : PySem.Str), ("1  2" : PySem.Str), ("~ |" : PySem.Str), ("'" : PySem.Str), ("(0,1)" : PySem.Str)]) trough_here) fun trough_here => (s1 (fun a0 s => m_ladle s a0) (sP (some 6) trough_here))) fun trough_here => (s2 (fun a b s => sK s (addG a b)) (sP (some 1) trough_here) fun trough_here => (s1 (fun a0 s => m_ladle s a0) (sP (some 14) trough_here)))))
        else
          (some (decide (shape = 4))).bind fun b => if b = true then
            (s2 (fun a b s => sK s (ixG a b)) (sP (some [(PyData.list []), (PyData.dict [])]) trough_here) fun trough_here => (s1 (fun a0 s => m_ladle s a0) (sP (some 2) trough_here)))
          else
            (some (decide (shape = 5))).bind fun b => if b = true then
              (some (PyData.tuple [])).bind fun rv => some (rv, trough_here)
            else
              (sC (s1 (fun a s => sK s (rngG a)) (s2 (fun a b s => sK s (addG a b)) (sP (some 1) trough_here) fun trough_here => (s1 (fun a0 s => m_ladle s a0) (sP (some 3) trough_here)))) fun l trough_here => sLc (fun (turn : Int) => fun trough_here => (s1 (fun a0 s => m_thing_2 s a0) (sP (some (deep + 1)) trough_here))) l trough_here).bind fun ((parts, trough_here) : (List PyData) × (List Int)) =>
              (some (decide (shape = 6))).bind fun b => if b = true then
                (some (PyData.list parts)).bind fun rv => some (rv, trough_here)
              else
                (some (decide (shape = 7))).bind fun b => if b = true then
                  (some (PyData.tuple parts)).bind fun rv => some (rv, trough_here)
                else
                  ((some (PyData.list parts)).bind fun a => (Option.map (fun r => (PyData.int r.1, r.2)) (s1 (fun a0 s => m_ladle s a0) (sP (some 11) trough_here))).bind fun r => some (PyData.dict [(PyData.str "seen", a), (PyData.str "hidden", r.1)], r.2))
def m_marks (e_ : (ErG PyData)) : Option (List Bool) :=
  (some [(subE e_.cls "InvalidSize"), (subE e_.cls "InvalidPlace"), (subE e_.cls "DoublePlace")]).bind fun (places : (List Bool)) =>
  (some [(subE e_.cls "InvalidMatrix"), (subE e_.cls "InvalidStep"), (subE e_.cls "InvalidNumber")]).bind fun (numbers : (List Bool)) =>
  (some [(subE e_.cls "InvalidWord"), (subE e_.cls "Conflict"), (subE e_.cls "Barred"), (subE e_.cls "Taken")]).bind fun (words : (List Bool)) =>
  (some [(subE e_.cls "Wrong"), (subE e_.cls "NothingToUndo"), (subE e_.cls "Unreadable")]).bind fun (ends : (List Bool)) =>
  (o2 catG (o2 catG (o2 catG (some places) (some numbers)) (some words)) (some ends)).bind fun rv => some rv
def m_by_place (one : PyData) : Option (List (ErG PyData)) :=
  (some [(ErG.mk "InvalidSize" one), (ErG.mk "InvalidPlace" one), (ErG.mk "DoublePlace" one), (ErG.mk "InvalidMatrix" one), (ErG.mk "InvalidStep" one)]).bind fun (places : (List (ErG PyData))) =>
  (some [(ErG.mk "InvalidNumber" one), (ErG.mk "InvalidWord" one), (ErG.mk "Conflict" one), (ErG.mk "Barred" one), (ErG.mk "Taken" one), (ErG.mk "Wrong" one)]).bind fun (words : (List (ErG PyData))) =>
  (o2 catG (o2 catG (some places) (some words)) (some [(ErG.mk "NothingToUndo" one), (ErG.mk "Unreadable" one)])).bind fun rv => some rv
def m_by_place_r (one : L2.V) : Option (List (ErG L2.V)) :=
  (some [(ErG.mk "InvalidSize" one), (ErG.mk "InvalidPlace" one), (ErG.mk "DoublePlace" one), (ErG.mk "InvalidMatrix" one), (ErG.mk "InvalidStep" one)]).bind fun (places : (List (ErG L2.V))) =>
  (some [(ErG.mk "InvalidNumber" one), (ErG.mk "InvalidWord" one), (ErG.mk "Conflict" one), (ErG.mk "Barred" one), (ErG.mk "Taken" one), (ErG.mk "Wrong" one)]).bind fun (words : (List (ErG L2.V))) =>
  (o2 catG (o2 catG (some places) (some words)) (some [(ErG.mk "NothingToUndo" one), (ErG.mk "Unreadable" one)])).bind fun rv => some rv
def m_by_name (one : PyData) : Option (List (ErG PyData)) :=
  (some [(ErG.mk "InvalidSize" one), (ErG.mk "InvalidPlace" one), (ErG.mk "DoublePlace" one), (ErG.mk "InvalidMatrix" one)]).bind fun (places : (List (ErG PyData))) =>
  (some [(ErG.mk "InvalidStep" one), (ErG.mk "InvalidNumber" one), (ErG.mk "InvalidWord" one), (ErG.mk "Conflict" one)]).bind fun (numbers : (List (ErG PyData))) =>
  (some [(ErG.mk "Barred" one), (ErG.mk "Taken" one), (ErG.mk "Wrong" one), (ErG.mk "NothingToUndo" one)]).bind fun (ends : (List (ErG PyData))) =>
  (o2 catG (o2 catG (o2 catG (some places) (some numbers)) (some ends)) (some [(ErG.mk "Unreadable" one)])).bind fun rv => some rv
def m_by_name_r (one : L2.V) : Option (List (ErG L2.V)) :=
  (some [(ErG.mk "InvalidSize" one), (ErG.mk "InvalidPlace" one), (ErG.mk "DoublePlace" one), (ErG.mk "InvalidMatrix" one)]).bind fun (places : (List (ErG L2.V))) =>
  (some [(ErG.mk "InvalidStep" one), (ErG.mk "InvalidNumber" one), (ErG.mk "InvalidWord" one), (ErG.mk "Conflict" one)]).bind fun (numbers : (List (ErG L2.V))) =>
  (some [(ErG.mk "Barred" one), (ErG.mk "Taken" one), (ErG.mk "Wrong" one), (ErG.mk "NothingToUndo" one)]).bind fun (ends : (List (ErG L2.V))) =>
  (o2 catG (o2 catG (o2 catG (some places) (some numbers)) (some ends)) (some [(ErG.mk "Unreadable" one)])).bind fun rv => some rv
def m_row_right (made : (List (ErG PyData))) (due : PySem.Str) : Option Bool :=
  (o1 rngG (some 13)).bind fun (l_ : List Int) => (oLoop (γ := Unit) (ρ := Bool) (fun (k_ : Int) (() : Unit) =>
      (oOr (o2 neDG (o1 m_marks (o2 ixG (some made) (some k_))) (o1 (oLc yes (fun (j : Int) => (some (decide (j = k_))))) (o1 rngG (some 13)))) (o2 neG (o1 reprZ (Option.map ErG.pay (o2 ixG (some made) (some k_)))) (some due))).bind fun b => if b = true then
      (some false).bind fun rv => some (.ret rv)
    else
      (oOr (oNot (Option.map (fun e => subE e.cls "PostError") (o2 ixG (some made) (some k_)))) (oNot (Option.map (fun _ => true) (o2 ixG (some made) (some k_))))).bind fun b => if b = true then
        (some false).bind fun rv => some (.ret rv)
      else
        some (.go ())) l_ ()).bind fun o_ => match o_ with
  | .ret r_ => some r_
  | .nx (() : Unit) =>
    (some (decide ((made.length : Int) = 13))).bind fun rv => some rv
def m_caught (one : PyData) (door : Int) : Option PySem.Str :=
  (some ("none" : PySem.Str)).bind fun (drawn : PySem.Str) =>
  (((some (decide (door = 0))).bind fun b => if b = true then
      (some one).bind fun p_ => some (.error ((ErG.mk "PostError" p_), (drawn)))
    else
      (some (decide (door = 1))).bind fun b => if b = true then
        (some one).bind fun p_ => some (.error ((ErG.mk "Unreadable" p_), (drawn)))
      else
        (some one).bind fun p_ => some (.error ((ErG.mk "Barred" p_), (drawn))) : Option (Except (ErG PyData × (PySem.Str)) (PySem.Str))).bind fun r_ => match r_ with
    | .ok st_ => some st_
    | .error (e_, (drawn)) => if subE e_.cls "PostError" = true then ((o1 reprZ (some e_.pay)).bind fun (drawn : PySem.Str) =>
        some (drawn)) else none).bind fun ((drawn) : PySem.Str) =>
  (some drawn).bind fun rv => some rv
def m_itself (trough_here : (List Int)) : Option (Bool × (List Int)) :=
  (s1 (fun a s => sK s (szG a)) (sCons (s1 (fun a0 s => m_thing s a0) (sP (some 2) trough_here)) fun trough_here => (some ([], trough_here)))).bind fun ((inner, trough_here) : (List PyData) × (List Int)) =>
  (s1 (fun a0 s => m_ladle s a0) (sP (some 3) trough_here)).bind fun ((q, trough_here) : Int × (List Int)) =>
  (some (PyData.str ("late" : PySem.Str))).bind fun val => (appG inner val).bind fun (inner : (List PyData)) =>
  (oneG inner q).bind fun (one : PyData) =>
  (o2 catG (o2 catG (m_by_place one) (m_by_name one)) (some [(ErG.mk "PostError" one), (ErG.mk "PostError" one)])).bind fun (made : (List (ErG PyData))) =>
  (o2 eqDG (o1 (oLc yes (fun (e_ : (ErG PyData)) => (o1 reprZ (some e_.pay)))) (some made)) (o2 repG (o1 szG (oCons (o1 reprZ (some one)) (some []))) (some 28))).bind fun rv => some (rv, trough_here)
def m_right (trough_here : (List Int)) : Option (Bool × (List Int)) :=
  (s1 (fun a0 s => m_thing s a0) (sP (some 0) trough_here)).bind fun ((one, trough_here) : PyData × (List Int)) =>
  (o1 reprZ (some one)).bind fun (due : PySem.Str) =>
  (oOr (oNot (o2 m_row_right (m_by_place one) (some due))) (oNot (o2 m_row_right (m_by_name one) (some due)))).bind fun b => if b = true then
    (some false).bind fun rv => some (rv, trough_here)
  else
    (some [(ErG.mk "PostError" one), (ErG.mk "PostError" one)]).bind fun (l_ : List (ErG PyData)) => (oLoop (γ := Unit) (ρ := (Bool × (List Int))) (fun (base_ : (ErG PyData)) (() : Unit) =>
        (oOr (o2 inDG (some true) (m_marks base_)) (oOr (oNot (Option.map (fun _ => true) (some base_))) (o2 neG (o1 reprZ (some base_.pay)) (some due)))).bind fun b => if b = true then
        (some false).bind fun rv => some (.ret (rv, trough_here))
      else
        some (.go ())) l_ ()).bind fun o_ => match o_ with
    | .ret r_ => some r_
    | .nx (() : Unit) =>
      (oOr (o2 neDG (o1 (oLc yes (fun (door : Int) => (m_caught one door))) (o1 rngG (some 3))) (o2 repG (some [due]) (some 3))) (o2 neG (o1 reprZ (some one)) (some due))).bind fun b => if b = true then
      (some false).bind fun rv => some (rv, trough_here)
    else
      (m_itself trough_here)
def m_law (script : (List Int)) : Option Bool :=
  (o2 catG (oCut (some script) (some none) (some (some 8))) (o2 repG (some [0]) (o1 (fun b => some (Mw.b2i b)) (o2 eqDG (some script) (some []))))).bind fun (cells : (List Int)) =>
  (o1 rngG (some (cells.length : Int))).bind fun (l_ : List Int) => (oLoop (γ := Unit) (ρ := Bool) (fun (k_ : Int) (() : Unit) =>
      (oNot ((o2 m_trough (o2 ixG (some cells) (some k_)) (some k_)).bind fun t => (m_right t).bind fun r => some r.1)).bind fun b => if b = true then
      (some false).bind fun rv => some (.ret rv)
    else
      some (.go ())) l_ ()).bind fun o_ => match o_ with
  | .ret r_ => some r_
  | .nx (() : Unit) =>
    (some true).bind fun rv => some rv
end Mi

set_option maxHeartbeats 2000000
namespace Pl
open PySem Mw Mi
/-! texts of places, pictures, lines -/
def sv (v : Int) : Str := toString v
/-! lines -/
/-! k81: the text of a picture is read back -/
/-! lists of texts -/
def Asc (w : Str) : Prop := ∀ c ∈ TL.tl w, c < 128
theorem Asc.sk {w : Str} (h : Asc w) : Sk.ok w = true := by
  show PyData.canLay0 (.str w) = true
  simp only [PyData.canLay0, PyData.strOk]
  refine Array.all_eq_true'.mpr fun c hc => decide_eq_true ?_
  have := h c (Array.mem_toList_iff.mpr hc)
  omega
theorem Asc.app {a b : Str} (ha : Asc a) (hb : Asc b) : Asc (a ++ b) := fun c hc => by
  rw [TL.tl_append] at hc
  exact (List.mem_append.mp hc).elim (ha c) (hb c)
theorem skS {l : List Str} (h : ∀ x ∈ l, Asc x) : Sk.ok l = true := List.all_eq_true.mpr fun x hx => (h x hx).sk
theorem sv_sign {i : Int} {c : Nat} (h : c ∈ TL.tl (sv i)) : c = 45 ∨ 48 ≤ c ∧ c ≤ 57 := Classical.byContradiction fun n => PyProof.Rows.int_text_free' c ⟨by omega, by omega⟩ i h
theorem join_sign {y : Str} {c : Nat} : ∀ {l : List Str}, c ∈ TL.tl (Txt.join y l) → c ∈ TL.tl y ∨ ∃ q ∈ l, c ∈ TL.tl q := fun {l} h => by
  rw [TL.join_eq, TL.tl_join] at h
  induction l with
  | nil => cases h
  | cons a l ih =>
    cases l with
    | nil => exact .inr ⟨a, by simp, h⟩
    | cons b r =>
      have h : c ∈ TL.tl a ++ (TL.tl y ++ TL.joinL (TL.tl y) ((b :: r).map TL.tl)) := h
      rcases List.mem_append.mp h with h | h
      · exact .inr ⟨a, by simp, h⟩
      · rcases List.mem_append.mp h with h | h
        · exact .inl h
        · rcases ih h with h | ⟨q, hq, h⟩
          · exact .inl h
          · exact .inr ⟨q, List.mem_cons_of_mem _ hq, h⟩
theorem sv_asc (i : Int) : Asc (sv i) := fun c h => by have := sv_sign h; omega
/-! no place's text is a word -/
/-! k00: plain signs of what is shown -/
theorem join_asc {y : PySem.Str} {l : List PySem.Str} (hy : Asc y) (h : ∀ x ∈ l, Asc x) : Asc (PySem.Str.join y l) := fun c hc => by
  rw [← TL.join_eq] at hc
  rcases join_sign hc with h1 | ⟨q, hq, h1⟩
  · exact hy c h1
  · exact h q hq c h1
theorem list_asc {ts : List PySem.Str} (h : ∀ x ∈ ts, Asc x) : Asc (listText ts) := by
  rw [listText_eq_join]
  exact (Asc.app (by decide : ∀ c ∈ TL.tl ("[" : PySem.Str), c < 128) (join_asc (by decide : ∀ c ∈ TL.tl (", " : PySem.Str), c < 128) h)).app (by decide : ∀ c ∈ TL.tl ("]" : PySem.Str), c < 128)
theorem tuple_asc {ts : List PySem.Str} (h : ∀ x ∈ ts, Asc x) : Asc (tupleText ts) := by
  unfold tupleText
  refine (Asc.app (by decide : ∀ c ∈ TL.tl ("(" : PySem.Str), c < 128) (join_asc (by decide : ∀ c ∈ TL.tl (", " : PySem.Str), c < 128) h)).app ?_
  cases ts.length == 1
  · exact (by decide : ∀ c ∈ TL.tl (")" : PySem.Str), c < 128)
  · exact (by decide : ∀ c ∈ TL.tl (",)" : PySem.Str), c < 128)
theorem dict_asc {ts : List PySem.Str} (h : ∀ x ∈ ts, Asc x) : Asc (dictText ts) := by
  unfold dictText
  exact (Asc.app (by decide : ∀ c ∈ TL.tl ("{" : PySem.Str), c < 128) (join_asc (by decide : ∀ c ∈ TL.tl (", " : PySem.Str), c < 128) h)).app (by decide : ∀ c ∈ TL.tl ("}" : PySem.Str), c < 128)
theorem all_asc : ∀ {ds : List PyData}, (∀ d ∈ ds, Asc d.shown) → ∀ x ∈ PyData.shownAll ds, Asc x
  | [], _, x, hx => by simp [PyData.shownAll] at hx
  | d :: ds, h, x, hx => by
    simp only [PyData.shownAll, List.mem_cons] at hx
    rcases hx with rfl | hx
    · exact h d List.mem_cons_self
    · exact all_asc (fun y hy => h y (List.mem_cons_of_mem _ hy)) x hx
theorem none_asc : Asc (PyData.none).shown := (by decide +kernel : ∀ c ∈ TL.tl (PyData.none).shown, c < 128)
theorem bool_asc : ∀ b, Asc (PyData.bool b).shown := (by decide +kernel : ∀ b, ∀ c ∈ TL.tl (PyData.bool b).shown, c < 128)
/-! k00: data that can be shown -/
structure Bz (D L : Nat) (d : PyData) : Prop where
  s : d.showable = true
  l : d.shown.length ≤ L
  dp : d.depth ≤ D
  a : Asc d.shown
theorem Bz.up {D L D' L' : Nat} {d : PyData} (h : Bz D L d) (hD : D ≤ D') (hL : L ≤ L') : Bz D' L' d := ⟨h.s, Nat.le_trans h.l hL, Nat.le_trans h.dp hD, h.a⟩
theorem Bz.all {D L : Nat} : ∀ {ds : List PyData}, (∀ d ∈ ds, Bz D L d) → PyData.showableAll ds = true ∧ ((PyData.shownAll ds).map (·.length)).sum ≤ ds.length * L ∧ (PyData.shownAll ds).length = ds.length ∧ PyData.depthAll ds ≤ D
  | [], _ => by simp [PyData.showableAll, PyData.shownAll, PyData.depthAll]
  | d :: ds, h => by
    have h1 := h d List.mem_cons_self
    obtain ⟨i1, i2, i3, i4⟩ := Bz.all (ds := ds) fun x hx => h x (List.mem_cons_of_mem _ hx)
    have l1 := h1.l
    have d1 := h1.dp
    refine ⟨?_, ?_, ?_, ?_⟩
    · simp [PyData.showableAll, h1.s, i1]
    · simp only [PyData.shownAll, List.map_cons, List.sum_cons, List.length_cons, Nat.succ_mul]
      omega
    · simp only [PyData.shownAll, List.length_cons, i3]
    · simp only [PyData.depthAll]
      omega
theorem Bz.lst {D L : Nat} {ds : List PyData} (h : ∀ d ∈ ds, Bz D L d) (hl : ds.length ≤ 3) : Bz (D + 1) (3 * L + 9) (.list ds) := by
  obtain ⟨i1, i2, i3, i4⟩ := Bz.all h
  have m := Nat.mul_le_mul_right L hl
  refine ⟨?_, ?_, ?_, ?_⟩
  · simp only [PyData.showable]
    exact i1
  · have := listText_len_le (PyData.shownAll ds)
    simp only [PyData.shown]
    omega
  · simp only [PyData.depth]
    omega
  · simp only [PyData.shown]
    exact list_asc (all_asc fun d hd => (h d hd).a)
theorem Bz.tup {D L : Nat} {ds : List PyData} (h : ∀ d ∈ ds, Bz D L d) (hl : ds.length ≤ 3) : Bz (D + 1) (3 * L + 9) (.tuple ds) := by
  obtain ⟨i1, i2, i3, i4⟩ := Bz.all h
  have m := Nat.mul_le_mul_right L hl
  refine ⟨?_, ?_, ?_, ?_⟩
  · simp only [PyData.showable]
    exact i1
  · have := tupleText_len_le (PyData.shownAll ds)
    simp only [PyData.shown]
    omega
  · simp only [PyData.depth]
    omega
  · simp only [PyData.shown]
    exact tuple_asc (all_asc fun d hd => (h d hd).a)
theorem Bz.int {i : Int} (h : i.natAbs < 2 ^ 1000) : Bz 0 2000 (.int i) := by
  have hl : i.natAbs.log2 < 1920 := by
    by_cases z : i.natAbs = 0
    · rw [z]; decide
    · exact (Nat.log2_lt z).mpr (Nat.lt_trans h (by decide))
  refine ⟨by simp [PyData.showable, hl], Nat.le_trans (shown_int_le hl) (by decide), Nat.le_refl _, ?_⟩
  simp only [PyData.shown]
  exact sv_asc i
theorem Bz.str {x : PySem.Str} {L : Nat} (h : (reprText x).length ≤ L) (ha : Asc (reprText x)) : Bz 0 L (.str x) := ⟨rfl, by simp only [PyData.shown]; exact h, Nat.le_refl _, by simp only [PyData.shown]; exact ha⟩
theorem Bz.dic {D L : Nat} {a b : PyData} {k1 k2 : PySem.Str} (h1 : Bz D L a) (h2 : Bz D L b) (e1 : (reprText k1).length ≤ 20) (e2 : (reprText k2).length ≤ 20) (g1 : Asc (reprText k1)) (g2 : Asc (reprText k2)) : Bz (D + 1) (2 * L + 60) (.dict [(.str k1, a), (.str k2, b)]) := by
  have l1 := h1.l
  have l2 := h2.l
  have d1 := h1.dp
  have d2 := h2.dp
  have cc : (": " : PySem.Str).length = 2 := by decide
  refine ⟨?_, ?_, ?_, ?_⟩
  · simp [PyData.showable, PyData.showableKv, h1.s, h2.s]
  · have := dictText_len_le (PyData.shownKv [(.str k1, a), (.str k2, b)])
    simp only [PyData.shownKv, PyData.shown, List.map_cons, List.map_nil, List.sum_cons, List.sum_nil, List.length_cons, List.length_nil, PySem.Str.length_append, cc] at this ⊢
    omega
  · simp only [PyData.depth, PyData.depthKv]
    omega
  · simp only [PyData.shown, PyData.shownKv]
    refine dict_asc fun x hx => ?_
    have ca : Asc (": " : PySem.Str) := (by decide : ∀ c ∈ TL.tl (": " : PySem.Str), c < 128)
    simp only [List.mem_cons, List.not_mem_nil, or_false] at hx
    rcases hx with rfl | rfl
    · exact (g1.app ca).app h1.a
    · exact (g2.app ca).app h2.a
theorem Bz.dic0 : Bz 1 20 (.dict []) := by
  refine ⟨rfl, ?_, ?_, ?_⟩
  · have := dictText_len_le (PyData.shownKv [])
    simp only [PyData.shown, PyData.shownKv] at this ⊢
    simp at this
    omega
  · simp [PyData.depth, PyData.depthKv]
  · simp only [PyData.shown, PyData.shownKv]
    exact dict_asc fun x hx => by cases hx
theorem Bz.ok {D L : Nat} {d : PyData} (h : Bz D L d) (hD : D ≤ 40) (hL : L ≤ 16000000) : reprZ d = some d.shown := by
  have l := h.l
  have dd := h.dp
  have z := sizeLine_eq
  refine if_pos ?_
  unfold okZ
  rw [h.s, decide_eq_true (show d.shown.length ≤ sizeLine by omega), decide_eq_true (show d.depth ≤ 40 by omega)]
  rfl
/-! the draws -/
def Ok (n : Nat) (s : List Int) : Prop := ∃ a b c, s = [a, b, c] ∧ 0 ≤ b ∧ b < 10000000000000000000000813 ∧ 0 ≤ c ∧ c ≤ (n : Int)
theorem Ok.up {n m : Nat} {s : List Int} (h : Ok n s) (hm : n ≤ m) : Ok m s := by
  obtain ⟨a, b, c, e, h1, h2, h3, h4⟩ := h
  exact ⟨a, b, c, e, h1, h2, h3, by omega⟩
theorem trough_ok (x k : Int) : ∃ s, m_trough x k = some s ∧ Ok 0 s := by
  refine ⟨[max 0 (max x (0 - x) - 10 ^ 18), (x * 256203221 + (k + 17) * 15487039) % 10000000000000000000000813, 0], ?_, _, _, _, rfl, Int.emod_nonneg _ (by decide), Int.emod_lt_of_pos _ (by decide), Int.le_refl _, Int.le_refl _⟩
  unfold m_trough
  simp only [o2_s, o1_s, bind_s, maxG_s, mulG_r (a := x) (b := 256203221) (by decide), mulG_r (a := k + 17) (b := 15487039) (by decide), addG_s, oCons_s]
  rw [modG_s (by decide), oCons_s, oCons_s, o1_s, szG_s (by simp)]
  rfl
theorem powW_s {a b : Int} (h0 : 0 ≤ b) (h1 : b ≤ 1000) (h2 : a.natAbs ≤ 1000000000000000000000000000000000000) : powW a b = some (a ^ b.toNat) := if_pos ⟨h0, h1, Nat.lt_of_le_of_lt h2 (by decide)⟩
theorem ladle_ok {n : Nat} {s : List Int} (h : Ok n s) (hn : n ≤ 1000000) {m : Int} (h0 : 0 < m) (h1 : m < 2 ^ 256) : ∃ x s', m_ladle s m = some (x, s') ∧ Ok (n + 1) s' ∧ 0 ≤ x ∧ x < m := by
  obtain ⟨a, b, c, rfl, hb0, hb1, hc0, hc1⟩ := h
  unfold m_ladle
  simp only [o2_s, o1_s, ix0, ix1, ix2, gtG_s, bind_s, addG_s]
  by_cases ha : 1 < a
  · simp only [decide_eq_true ha, if_true, modG_s h0, divG_s h0 h1 (by decide), bind_s, set0]
    exact ⟨_, _, rfl, ⟨_, _, _, rfl, hb0, hb1, hc0, by omega⟩, Int.emod_nonneg _ (by omega), Int.emod_lt_of_pos _ h0⟩
  · have p1 : powW (b + (c + 1) * 67867967) 3 = some ((b + (c + 1) * 67867967) ^ 3) := powW_s (by decide) (by decide) (by omega)
    simp only [decide_eq_false ha, Bool.false_eq_true, if_false, set2, bind_s, ix1, ix2, mulG_r (a := c + 1) (b := 67867967) (by decide), o2_s, addG_s, p1, o1_s]
    rw [modG_s (by decide), bind_s]
    have q0 := Int.emod_nonneg ((b + (c + 1) * 67867967) ^ 3) (b := 10 ^ 27 + 747) (by decide)
    have q1 := Int.emod_lt_of_pos ((b + (c + 1) * 67867967) ^ 3) (b := 10 ^ 27 + 747) (by decide)
    generalize (b + (c + 1) * 67867967) ^ 3 % (10 ^ 27 + 747) = u at q0 q1
    have p2 : powW u 2 = some (u ^ 2) := powW_s (by decide) (by decide) (by omega)
    simp only [p2, divG_s (b := 8231) (n := 20) (by decide) (by decide) (by decide), o2_s, addG_s, o1_s]
    rw [modG_s (by decide), o2_s, divG_s (b := 10067) (n := 20) (by decide) (by decide) (by decide), o2_s, modG_s h0]
    exact ⟨_, _, rfl, ⟨_, _, _, rfl, hb0, hb1, by omega, by omega⟩, Int.emod_nonneg _ (by omega), Int.emod_lt_of_pos _ h0⟩
/-! k00: the values drawn -/
def thingS (th : List Int → Int → Option (PyData × (List Int))) (trough_here : (List Int)) (deep : Int) : Option (PyData × (List Int)) :=
  (s1 (fun a0 s => m_ladle s a0) (sP (oIf (some (decide (deep < 3))) (some 9) (some 6)) trough_here)).bind fun ((shape, trough_here) : Int × (List Int)) =>
  (some (decide (shape = 0))).bind fun b => if b = true then
    (some PyData.none).bind fun rv => some (rv, trough_here)
  else
    (some (decide (shape = 1))).bind fun b => if b = true then
      (Option.map (fun r => (PyData.bool r.1, r.2)) (s2 (fun a b s => sK s (eqG a b)) (s1 (fun a0 s => m_ladle s a0) (sP (some 2) trough_here)) fun trough_here => (sP (some 0) trough_here)))
    else
      (some (decide (shape = 2))).bind fun b => if b = true then
        (Option.map (fun r => (PyData.int r.1, r.2)) (s2 (fun a b s => sK s (addG a b)) (s2 (fun a b s => sK s (ixG a b)) (sP (some [0, 1, (0 - 8), ((10 : Int) ^ 40), (0 - ((10 : Int) ^ 37))]) trough_here) fun trough_here => (s1 (fun a0 s => m_ladle s a0) (sP (some 5) trough_here))) fun trough_here => (s1 (fun a0 s => m_ladle s a0) (sP (some 9) trough_here))))
      else
        (some (decide (shape = 3))).bind fun b => if b = true then
          (Option.map (fun r => (PyData.str r.1, r.2)) (s2 (fun a b s => sK s (mulS a b)) (s2 (fun a b s => sK s (ixG a b)) (sP (some [("" : PySem.Str), ("post" : PySem.Str), ("1  2" : PySem.Str), ("~ |" : PySem.Str), ("'" : PySem.Str), ("(0,1)" : PySem.Str)]) trough_here) fun trough_here => (s1 (fun a0 s => m_ladle s a0) (sP (some 6) trough_here))) fun trough_here => (s2 (fun a b s => sK s (addG a b)) (sP (some 1) trough_here) fun trough_here => (s1 (fun a0 s => m_ladle s a0) (sP (some 14) trough_here)))))
        else
          (some (decide (shape = 4))).bind fun b => if b = true then
            (s2 (fun a b s => sK s (ixG a b)) (sP (some [(PyData.list []), (PyData.dict [])]) trough_here) fun trough_here => (s1 (fun a0 s => m_ladle s a0) (sP (some 2) trough_here)))
          else
            (some (decide (shape = 5))).bind fun b => if b = true then
              (some (PyData.tuple [])).bind fun rv => some (rv, trough_here)
            else
              (sC (s1 (fun a s => sK s (rngG a)) (s2 (fun a b s => sK s (addG a b)) (sP (some 1) trough_here) fun trough_here => (s1 (fun a0 s => m_ladle s a0) (sP (some 3) trough_here)))) fun l trough_here => sLc (fun (turn : Int) => fun trough_here => (s1 (fun a0 s => th s a0) (sP (some (deep + 1)) trough_here))) l trough_here).bind fun ((parts, trough_here) : (List PyData) × (List Int)) =>
              (some (decide (shape = 6))).bind fun b => if b = true then
                (some (PyData.list parts)).bind fun rv => some (rv, trough_here)
              else
                (some (decide (shape = 7))).bind fun b => if b = true then
                  (some (PyData.tuple parts)).bind fun rv => some (rv, trough_here)
                else
                  ((some (PyData.list parts)).bind fun a => (Option.map (fun r => (PyData.int r.1, r.2)) (s1 (fun a0 s => m_ladle s a0) (sP (some 11) trough_here))).bind fun r => some (PyData.dict [(PyData.str "seen", a), (PyData.str "hidden", r.1)], r.2))
def TH (th : List Int → Int → Option (PyData × (List Int))) (e C D L : Nat) : Prop := ∀ n s (d : Int), Ok n s → n + C ≤ 1000000 → (e : Int) ≤ d → ∃ x s', th s d = some (x, s') ∧ Ok (n + C) s' ∧ Bz D L x
theorem leaf_int {b c : Int} (hb : b = 0 ∨ b = 1 ∨ b = 0 - 8 ∨ b = 10 ^ 40 ∨ b = 0 - 10 ^ 37) (h0 : 0 ≤ c) (h1 : c < 9) : Bz 0 2000 (.int (b + c)) := Bz.int (by
  have : (b + c).natAbs ≤ 100000000000000000000000000000000000000000 := by
    have e1 : (10 : Int) ^ 40 = 10000000000000000000000000000000000000000 := by decide
    have e2 : (10 : Int) ^ 37 = 10000000000000000000000000000000000000 := by decide
    omega
  exact Nat.lt_of_le_of_lt this (by decide))
theorem leaf_str : ∀ a ∈ [("" : PySem.Str), ("post" : PySem.Str), ("1  2" : PySem.Str), ("~ |" : PySem.Str), ("'" : PySem.Str), ("(0,1)" : PySem.Str)], ∀ i : Nat, i < 15 → (reprText (Txt.mul a (i : Int))).length ≤ 200 := by decide +kernel
theorem leaf_asc : ∀ a ∈ [("" : PySem.Str), ("post" : PySem.Str), ("1  2" : PySem.Str), ("~ |" : PySem.Str), ("'" : PySem.Str), ("(0,1)" : PySem.Str)], ∀ i : Nat, i < 15 → ∀ c ∈ TL.tl (reprText (Txt.mul a (i : Int))), c < 128 := by decide +kernel
theorem leaf_len : ∀ a ∈ [("" : PySem.Str), ("post" : PySem.Str), ("1  2" : PySem.Str), ("~ |" : PySem.Str), ("'" : PySem.Str), ("(0,1)" : PySem.Str)], a.length ≤ 1000 := by decide +kernel
theorem leaves {n : Nat} {s : List Int} (k : Ok n s) (hn : n + 3 ≤ 1000000) {m : Int} (hm : m = 1 ∨ m = 2 ∨ m = 3 ∨ m = 4 ∨ m = 5) : ∃ x s', ((some (decide (m = 1))).bind fun b => if b = true then
      (Option.map (fun r => (PyData.bool r.1, r.2)) (s2 (fun a b s => sK s (eqG a b)) (s1 (fun a0 s => m_ladle s a0) (sP (some 2) s)) fun trough_here => (sP (some 0) trough_here)))
    else
      (some (decide (m = 2))).bind fun b => if b = true then
        (Option.map (fun r => (PyData.int r.1, r.2)) (s2 (fun a b s => sK s (addG a b)) (s2 (fun a b s => sK s (ixG a b)) (sP (some [0, 1, (0 - 8), ((10 : Int) ^ 40), (0 - ((10 : Int) ^ 37))]) s) fun trough_here => (s1 (fun a0 s => m_ladle s a0) (sP (some 5) trough_here))) fun trough_here => (s1 (fun a0 s => m_ladle s a0) (sP (some 9) trough_here))))
      else
        (some (decide (m = 3))).bind fun b => if b = true then
          (Option.map (fun r => (PyData.str r.1, r.2)) (s2 (fun a b s => sK s (mulS a b)) (s2 (fun a b s => sK s (ixG a b)) (sP (some [("" : PySem.Str), ("post" : PySem.Str), ("1  2" : PySem.Str), ("~ |" : PySem.Str), ("'" : PySem.Str), ("(0,1)" : PySem.Str)]) s) fun trough_here => (s1 (fun a0 s => m_ladle s a0) (sP (some 6) trough_here))) fun trough_here => (s2 (fun a b s => sK s (addG a b)) (sP (some 1) trough_here) fun trough_here => (s1 (fun a0 s => m_ladle s a0) (sP (some 14) trough_here)))))
        else
          (some (decide (m = 4))).bind fun b => if b = true then
            (s2 (fun a b s => sK s (ixG a b)) (sP (some [(PyData.list []), (PyData.dict [])]) s) fun trough_here => (s1 (fun a0 s => m_ladle s a0) (sP (some 2) trough_here)))
          else some (PyData.tuple [], s)) = some (x, s') ∧ Ok (n + 3) s' ∧ Bz 1 2000 x := by
  rcases hm with rfl | rfl | rfl | rfl | rfl
  · obtain ⟨x, s', e1, k1, _⟩ := ladle_ok k (by omega) (m := 2) (by decide) (by decide)
    refine ⟨.bool (decide (x = 0)), s', ?_, k1.up (by omega), ⟨rfl, ?_, Nat.zero_le _, bool_asc _⟩⟩
    · simp only [decide_true, bind_s, if_true, sP_s, s1_s, e1, s2_s, sC_s, eqG_s, sK_s, Option.map_some]
    · cases decide (x = 0) <;> decide +kernel
  · obtain ⟨x, s', e1, k1, a1, b1⟩ := ladle_ok k (by omega) (m := 5) (by decide) (by decide)
    obtain ⟨y, s2', e2, k2, a2, b2⟩ := ladle_ok k1 (by omega) (m := 9) (by decide) (by decide)
    obtain ⟨v, e3, hv⟩ := W_ix (Q := fun v => v = 0 ∨ v = 1 ∨ v = 0 - 8 ∨ v = 10 ^ 40 ∨ v = 0 - 10 ^ 37) (l := [0, 1, (0 - 8), ((10 : Int) ^ 40), (0 - ((10 : Int) ^ 37))]) a1 (by exact b1) (fun v hv => by simpa only [List.mem_cons, List.not_mem_nil, or_false] using hv)
    refine ⟨.int (v + y), s2', ?_, k2.up (by omega), (leaf_int hv a2 b2).up (by decide) (Nat.le_refl _)⟩
    rw [decide_eq_false (show ¬ (2 : Int) = 1 by decide), bind_s, if_neg Bool.false_ne_true, decide_eq_true rfl, bind_s, if_pos rfl]
    simp only [sP_s, s1_s, s2_s, sC_s, e1, sK_s, e3, e2, addG_s, Option.map_some]
  · obtain ⟨x, s', e1, k1, a1, b1⟩ := ladle_ok k (by omega) (m := 6) (by decide) (by decide)
    obtain ⟨y, s2', e2, k2, a2, b2⟩ := ladle_ok k1 (by omega) (m := 14) (by decide) (by decide)
    obtain ⟨v, e3, hv⟩ := W_ix (Q := fun v => v ∈ [("" : PySem.Str), ("post" : PySem.Str), ("1  2" : PySem.Str), ("~ |" : PySem.Str), ("'" : PySem.Str), ("(0,1)" : PySem.Str)]) (l := [("" : PySem.Str), ("post" : PySem.Str), ("1  2" : PySem.Str), ("~ |" : PySem.Str), ("'" : PySem.Str), ("(0,1)" : PySem.Str)]) a1 (by exact b1) (fun v hv => hv)
    obtain ⟨i, hi⟩ : ∃ i : Nat, 1 + y = (i : Int) := ⟨(1 + y).toNat, by omega⟩
    have ms : mulS v (i : Int) = some (Txt.mul v (i : Int)) := if_pos ⟨by omega, by omega, leaf_len v hv⟩
    refine ⟨.str (Txt.mul v (i : Int)), s2', ?_, k2.up (by omega), (Bz.str (leaf_str v hv i (by omega)) (leaf_asc v hv i (by omega))).up (by decide) (by decide)⟩
    rw [decide_eq_false (show ¬ (3 : Int) = 1 by decide), bind_s, if_neg Bool.false_ne_true, decide_eq_false (show ¬ (3 : Int) = 2 by decide), bind_s, if_neg Bool.false_ne_true, decide_eq_true rfl, bind_s, if_pos rfl]
    simp only [sP_s, s1_s, s2_s, sC_s, e1, sK_s, e3, e2, addG_s, hi, ms, Option.map_some]
  · obtain ⟨x, s', e1, k1, a1, b1⟩ := ladle_ok k (by omega) (m := 2) (by decide) (by decide)
    obtain ⟨v, e3, hv⟩ := W_ix (Q := fun v => Bz 1 2000 v) (l := [(PyData.list []), (PyData.dict [])]) a1 (by exact b1) (fun v hv => by
      simp only [List.mem_cons, List.not_mem_nil, or_false] at hv
      rcases hv with rfl | rfl
      · exact (Bz.lst (D := 0) (L := 0) (ds := []) (fun d hd => by cases hd) (by decide)).up (by decide) (by decide)
      · exact Bz.dic0.up (by decide) (by decide))
    refine ⟨v, s', ?_, k1.up (by omega), hv⟩
    rw [decide_eq_false (show ¬ (4 : Int) = 1 by decide), bind_s, if_neg Bool.false_ne_true, decide_eq_false (show ¬ (4 : Int) = 2 by decide), bind_s, if_neg Bool.false_ne_true, decide_eq_false (show ¬ (4 : Int) = 3 by decide), bind_s, if_neg Bool.false_ne_true, decide_eq_true rfl, bind_s, if_pos rfl]
    simp only [sP_s, s1_s, s2_s, sC_s, e1, sK_s, e3]
  · exact ⟨.tuple [], s, rfl, k.up (by omega), (Bz.tup (D := 0) (L := 0) (ds := []) (fun d hd => by cases hd) (by decide)).up (by decide) (by decide)⟩
/-! k00: every level of the values -/
theorem thing0_ok : TH m_thing_0 3 5 1 2000 := fun n s d k hn hd => by
  obtain ⟨x, s1, e1, k1, a1, b1⟩ := ladle_ok k (by omega) (m := 6) (by decide) (by decide)
  have sh : (Mw.s1 (fun a0 s => m_ladle s a0) (sP (oIf (some (decide (d < 3))) (some 9) (some 6)) s)) = some (x, s1) := by
    rw [decide_eq_false (show ¬ d < 3 by omega), oIf_f, sP_s, s1_s, e1]
  unfold m_thing_0
  rw [sh, bind_s]
  dsimp only
  have cs : x = 0 ∨ x = 1 ∨ x = 2 ∨ x = 3 ∨ x = 4 ∨ x = 5 := by omega
  rcases cs with rfl | cs
  · exact ⟨.none, s1, rfl, k1.up (by omega), ⟨rfl, by decide +kernel, Nat.zero_le _, none_asc⟩⟩
  · obtain ⟨y, s', e, k', b⟩ := leaves k1 (by omega) cs
    refine ⟨y, s', ?_, k'.up (by omega), b⟩
    rcases cs with rfl | rfl | rfl | rfl | rfl <;> exact e
theorem thingS_ok {th : List Int → Int → Option (PyData × (List Int))} {e C D L : Nat} (h : TH th (e + 1) C D L) (hD : 1 ≤ D) (hL : 2000 ≤ L) : TH (thingS th) e (3 * C + 6) (D + 2) (6 * L + 4100) := fun n s d k hn hd => by
  obtain ⟨m, em, m0, m1⟩ : ∃ m : Int, oIf (some (decide (d < 3))) (some 9) (some 6) = some m ∧ 0 < m ∧ m ≤ 9 := by
    by_cases c : d < 3
    · exact ⟨9, by rw [decide_eq_true c]; rfl, by decide, by decide⟩
    · exact ⟨6, by rw [decide_eq_false c]; rfl, by decide, by decide⟩
  obtain ⟨x, s1, e1, k1, a1, b1⟩ := ladle_ok k (by omega) (m := m) m0 (Int.lt_of_le_of_lt m1 (by decide))
  have sh : (Mw.s1 (fun a0 s => m_ladle s a0) (sP (oIf (some (decide (d < 3))) (some 9) (some 6)) s)) = some (x, s1) := by
    rw [em, sP_s, s1_s, e1]
  unfold thingS
  rw [sh, bind_s]
  dsimp only
  have cs : x = 0 ∨ (x = 1 ∨ x = 2 ∨ x = 3 ∨ x = 4 ∨ x = 5) ∨ x = 6 ∨ x = 7 ∨ x = 8 := by omega
  rcases cs with rfl | cs | cs
  · exact ⟨.none, s1, rfl, k1.up (by omega), ⟨rfl, Nat.le_trans (show (PyData.none).shown.length ≤ 2000 by decide +kernel) (by omega), Nat.zero_le _, none_asc⟩⟩
  · obtain ⟨y, s', e, k', b⟩ := leaves k1 (by omega) cs
    refine ⟨y, s', ?_, k'.up (by omega), b.up (by omega) (by omega)⟩
    rcases cs with rfl | rfl | rfl | rfl | rfl <;> exact e
  · obtain ⟨y, s2, e2, k2, a2, b2⟩ := ladle_ok k1 (by omega) (m := 3) (by decide) (by decide)
    obtain ⟨N, hN⟩ : ∃ N : Nat, 1 + y = (N : Int) := ⟨(1 + y).toNat, by omega⟩
    have rg : rngG (N : Int) = some (rngL 0 (N : Int)) := rngG_s (by omega) (by omega)
    obtain ⟨⟨parts, s3⟩, e3, ⟨lp, bp⟩, k3⟩ := W_slcR (f := fun (turn : Int) => fun trough_here => (Mw.s1 (fun a0 s => th s a0) (sP (some (d + 1)) trough_here))) (Q := fun r : List PyData × List Int => (r.1.length = N ∧ ∀ v ∈ r.1, Bz D L v) ∧ Ok (n + 2 + N * C) r.2) (fun j g => Ok (n + 2 + j * C) g) (fun v => Bz D L v) (N := N) (g := s2) (by omega) (k2.up (by omega)) (fun i g hi hg => by
      have hm : i * C ≤ 2 * C := Nat.mul_le_mul_right C (by omega)
      obtain ⟨z, g', e4, k4, b4⟩ := h (n + 2 + i * C) g (d + 1) hg (by omega) (by omega)
      refine ⟨(z, g'), by rw [sP_s, s1_s, e4], b4, ?_⟩
      show Ok (n + 2 + (i + 1) * C) g'
      rw [Nat.succ_mul]
      exact k4.up (by omega)) (fun xs g' hl hb hk => ⟨⟨hl, hb⟩, hk⟩)
    have lp : parts.length = N := lp
    have hm : N * C ≤ 3 * C := Nat.mul_le_mul_right C (by omega)
    have k3 : Ok (n + 2 + N * C) s3 := k3
    have mid : (sC (Mw.s1 (fun a s => sK s (rngG a)) (Mw.s2 (fun a b s => sK s (addG a b)) (sP (some 1) s1) fun trough_here => (Mw.s1 (fun a0 s => m_ladle s a0) (sP (some 3) trough_here)))) fun l trough_here => sLc (fun (turn : Int) => fun trough_here => (Mw.s1 (fun a0 s => th s a0) (sP (some (d + 1)) trough_here))) l trough_here) = some (parts, s3) := by
      have hd1 : (Mw.s1 (fun a s => sK s (rngG a)) (Mw.s2 (fun a b s => sK s (addG a b)) (sP (some 1) s1) fun trough_here => (Mw.s1 (fun a0 s => m_ladle s a0) (sP (some 3) trough_here)))) = some (rngL 0 (N : Int), s2) := by
        simp only [sP_s, s1_s, s2_s, sC_s, e2, sK_s, addG_s, hN, rg]
      rw [hd1, sC_s]
      exact e3
    have bl := Bz.lst bp (by omega)
    rcases cs with rfl | rfl | rfl
    · refine ⟨.list parts, s3, ?_, k3.up (by omega), bl.up (by omega) (by omega)⟩
      show (Option.bind _ _) = _
      rw [mid]
      rfl
    · refine ⟨.tuple parts, s3, ?_, k3.up (by omega), (Bz.tup bp (by omega)).up (by omega) (by omega)⟩
      show (Option.bind _ _) = _
      rw [mid]
      rfl
    · obtain ⟨z, s4, e5, k5, a5, b5⟩ := ladle_ok k3 (by omega) (m := 11) (by decide) (by decide)
      have bi : Bz 0 2000 (.int z) := Bz.int (Nat.lt_of_le_of_lt (show z.natAbs ≤ 11 by omega) (by decide))
      refine ⟨.dict [(.str "seen", .list parts), (.str "hidden", .int z)], s4, ?_, k5.up (by omega), ((Bz.dic (bl.up (Nat.le_refl _) (show 3 * L + 9 ≤ 3 * L + 2010 by omega)) (bi.up (by omega) (by omega)) (by decide +kernel) (by decide +kernel) (by decide +kernel : ∀ c ∈ TL.tl (reprText ("seen" : PySem.Str)), c < 128) (by decide +kernel : ∀ c ∈ TL.tl (reprText ("hidden" : PySem.Str)), c < 128))).up (by omega) (by omega)⟩
      show (Option.bind _ _) = _
      rw [mid]
      have f : Option.map (fun r => (PyData.int r.1, r.2)) (Mw.s1 (fun a0 s => m_ladle s a0) (sP (some 11) s3)) = some (PyData.int z, s4) := by
        rw [sP_s, s1_s, e5]
        rfl
      show ((some (PyData.list parts)).bind fun a => (Option.map (fun r => (PyData.int r.1, r.2)) (Mw.s1 (fun a0 s => m_ladle s a0) (sP (some 11) s3))).bind fun r => some (PyData.dict [(PyData.str "seen", a), (PyData.str "hidden", r.1)], r.2)) = _
      rw [f]
      rfl
theorem thing_ok : TH m_thing 0 303 7 608300 := by
  have t1 : TH m_thing_1 2 21 3 16100 := thingS_ok thing0_ok (by decide) (by decide)
  have t2 : TH m_thing_2 1 69 5 100700 := thingS_ok t1 (by decide) (by decide)
  have t3 : TH m_thing 0 213 7 608300 := thingS_ok t2 (by decide) (by decide)
  exact fun n s d k hn hd => by
    obtain ⟨x, s', e, k', b⟩ := t3 n s d k (by omega) hd
    exact ⟨x, s', e, k'.up (by omega), b⟩
/-! k00: the law -/
def NM : List PySem.Str := ["InvalidSize", "InvalidPlace", "DoublePlace", "InvalidMatrix", "InvalidStep", "InvalidNumber", "InvalidWord", "Conflict", "Barred", "Taken", "Wrong", "NothingToUndo", "Unreadable"]
def rowOf (one : PyData) : List (ErG PyData) := NM.map fun c => ErG.mk c one
theorem place_row (one : PyData) : m_by_place one = some (rowOf one) := rfl
theorem name_row (one : PyData) : m_by_name one = some (rowOf one) := rfl
theorem marks_any (c : PySem.Str) (one : PyData) : m_marks ⟨c, one⟩ = m_marks ⟨c, .none⟩ := rfl
theorem marks_k : ∀ k : Nat, k < 13 → o2 neDG (m_marks ⟨NM.getD k "", .none⟩) (o1 (oLc yes (fun (j : Int) => (some (decide (j = (k : Int)))))) (some (rngL 0 13))) = some false := by decide +kernel
theorem sub_k : ∀ k : Nat, k < 13 → subE (NM.getD k "") "PostError" = true := by decide +kernel
theorem rowOf_at {one : PyData} : ∀ {k : Nat}, k < 13 → ixG (rowOf one) (k : Int) = some ⟨NM.getD k "", one⟩
  | 0, _ => rfl
  | 1, _ => rfl
  | 2, _ => rfl
  | 3, _ => rfl
  | 4, _ => rfl
  | 5, _ => rfl
  | 6, _ => rfl
  | 7, _ => rfl
  | 8, _ => rfl
  | 9, _ => rfl
  | 10, _ => rfl
  | 11, _ => rfl
  | 12, _ => rfl
  | k + 13, h => by omega
theorem row_ok {one : PyData} {t : PySem.Str} (he : reprZ one = some t) : m_row_right (rowOf one) t = some true := by
  unfold m_row_right
  rw [o1_s, rngG_s (n := 13) (by decide) (by decide), bind_s, loop_unit fun a ha => ?_]
  · rfl
  · obtain ⟨a0, a1⟩ := rngL_mem ha
    obtain ⟨k, rfl⟩ : ∃ k : Nat, a = (k : Int) := ⟨a.toNat, by omega⟩
    have hk : k < 13 := by omega
    have e1 : o2 ixG (some (rowOf one)) (some (k : Int)) = some ⟨NM.getD k "", one⟩ := rowOf_at hk
    have e2 : o1 m_marks (some (⟨NM.getD k "", one⟩ : ErG PyData)) = m_marks ⟨NM.getD k "", .none⟩ := marks_any _ _
    have e3 : o1 reprZ (Option.map ErG.pay (some (⟨NM.getD k "", one⟩ : ErG PyData))) = some t := he
    show (Option.bind (oOr (o2 neDG (o1 m_marks (o2 ixG (some (rowOf one)) (some (k : Int)))) _) _) _) = _
    rw [e1, e2, marks_k k hk, oOr_f, e3, o2_s, neG_s, decide_eq_true rfl, Option.map_some, sub_k k hk]
    rfl
theorem caught_ok {one : PyData} {t : PySem.Str} (he : reprZ one = some t) (d : Int) : m_caught one d = some t := by
  have q1 : subE ("PostError" : PySem.Str) "PostError" = true := by decide
  have q2 : subE ("Unreadable" : PySem.Str) "PostError" = true := by decide
  have q3 : subE ("Barred" : PySem.Str) "PostError" = true := by decide
  have e : o1 reprZ (some one) = some t := he
  unfold m_caught
  by_cases c0 : d = 0
  · simp only [decide_eq_true c0, bind_s, if_true, q1, e]
  · by_cases c1 : d = 1
    · simp only [decide_eq_false c0, decide_eq_true c1, bind_s, if_true, if_false, Bool.false_eq_true, q2, e]
    · simp only [decide_eq_false c0, decide_eq_false c1, bind_s, if_true, if_false, Bool.false_eq_true, q3, e]
theorem lc_pay {t : PySem.Str} : ∀ {l : List (ErG PyData)}, (∀ e ∈ l, reprZ e.pay = some t) → oMap yes (fun (e_ : (ErG PyData)) => (o1 reprZ (some e_.pay))) l = some (l.map fun _ => t)
  | [], _ => rfl
  | e :: l, h => by
    have h1 := h e List.mem_cons_self
    have h2 := lc_pay (l := l) fun x hx => h x (List.mem_cons_of_mem _ hx)
    rw [oMap]
    show ((reprZ e.pay).bind fun r => (oMap yes (fun (e_ : (ErG PyData)) => (o1 reprZ (some e_.pay))) l).bind fun rs => some (r :: rs)) = _
    rw [h1, h2]
    rfl
def madeL (one : PyData) : List (ErG PyData) := rowOf one ++ rowOf one ++ [(ErG.mk "PostError" one), (ErG.mk "PostError" one)]
theorem made_all (one : PyData) : (o2 catG (o2 catG (m_by_place one) (m_by_name one)) (some [(ErG.mk "PostError" one), (ErG.mk "PostError" one)])) = some (madeL one) := rfl
theorem itself_ok {n : Nat} {s : List Int} (k : Ok n s) (hn : n ≤ 100000) : W (m_itself s) fun r => r.1 = true := by
  obtain ⟨d, s1, e1, k1, b1⟩ := thing_ok n s 2 k (by omega) (by decide)
  obtain ⟨q, s2, e2, k2, a2, c2⟩ := ladle_ok k1 (by omega) (m := 3) (by decide) (by decide)
  have sz : szG [d] = some [d] := szG_s (by simp)
  have st : (Mw.s1 (fun a s => sK s (szG a)) (sCons (Mw.s1 (fun a0 s => m_thing s a0) (sP (some 2) s)) fun trough_here => (some ([], trough_here)))) = some ([d], s1) := by
    simp only [sP_s, s1_s, e1, sCons_s, sC_s, sz, sK_s]
  have st2 : (Mw.s1 (fun a0 s => m_ladle s a0) (sP (some 3) s1)) = some (q, s2) := by rw [sP_s, s1_s, e2]
  have bl : Bz 0 2000 (.str "late") := Bz.str (by decide +kernel) (by decide +kernel : ∀ c ∈ TL.tl (reprText ("late" : PySem.Str)), c < 128)
  have bi : Bz 8 1900000 (.list [d, .str "late"]) := (Bz.lst (D := 7) (L := 608300) (ds := [d, .str "late"]) (fun x hx => by
    simp only [List.mem_cons, List.not_mem_nil, or_false] at hx
    rcases hx with rfl | rfl
    · exact b1
    · exact bl.up (by decide) (by decide)) (by simp)).up (by decide) (by decide)
  have bn : ∀ i : Int, i = 1 ∨ i = 2 → Bz 8 1900000 (.int i) := fun i hi => (Bz.int (Nat.lt_of_le_of_lt (show i.natAbs ≤ 2 by omega) (by decide))).up (by decide) (by decide)
  obtain ⟨one, eo, bo⟩ : ∃ one, oneG [d, .str "late"] q = some one ∧ Bz 9 6000000 one := by
    have cs : q = 0 ∨ q = 1 ∨ q = 2 := by omega
    rcases cs with rfl | rfl | rfl
    · exact ⟨_, rfl, bi.up (by decide) (by decide)⟩
    · exact ⟨_, rfl, (Bz.dic bi (bn 2 (.inr rfl)) (by decide +kernel) (by decide +kernel) (by decide +kernel : ∀ c ∈ TL.tl (reprText ("a" : PySem.Str)), c < 128) (by decide +kernel : ∀ c ∈ TL.tl (reprText ("b" : PySem.Str)), c < 128)).up (by decide) (by decide)⟩
    · exact ⟨_, rfl, (Bz.tup (D := 8) (L := 1900000) (ds := [.list [d, .str "late"], .int 1]) (fun x hx => by
        simp only [List.mem_cons, List.not_mem_nil, or_false] at hx
        rcases hx with rfl | rfl
        · exact bi
        · exact bn 1 (.inl rfl)) (by simp)).up (by decide) (by decide)⟩
  have he := bo.ok (by decide) (by decide)
  have ap : appG [d] (PyData.str "late") = some [d, .str "late"] := appG_s (by simp)
  have lc : o1 (oLc yes (fun (e_ : (ErG PyData)) => (o1 reprZ (some e_.pay)))) (some (madeL one)) = some ((madeL one).map fun _ => one.shown) := by
    rw [o1_s]
    unfold oLc
    rw [if_pos (show (madeL one).length ≤ 16000000 from Nat.le_of_ble_eq_true rfl)]
    exact lc_pay fun e he2 => by
      have : e.pay = one := by
        unfold madeL rowOf at he2
        simp only [List.mem_append, List.mem_map, List.mem_cons, List.not_mem_nil, or_false] at he2
        rcases he2 with (⟨c, _, rfl⟩ | ⟨c, _, rfl⟩) | rfl | rfl <;> rfl
      rw [this]
      exact he
  have rp : (o2 repG (o1 szG (oCons (o1 reprZ (some one)) (some []))) (some 28)) = some ((madeL one).map fun _ => one.shown) := by
    rw [o1_s, he, oCons_s, o1_s, szG_s (by simp)]
    rfl
  unfold m_itself
  rw [st, bind_s]
  dsimp only
  rw [st2, bind_s]
  dsimp only
  rw [bind_s, ap, bind_s, eo, bind_s, made_all, bind_s, lc, rp, o2_s]
  have sk : Sk.ok ((madeL one).map fun _ => one.shown) = true := skS fun x hx => by
    obtain ⟨_, _, rfl⟩ := List.mem_map.mp hx
    exact bo.a
  unfold eqDG
  rw [if_pos ⟨sk, sk⟩, decide_eq_true rfl]
  exact W_some rfl
theorem right_ok {s : List Int} (k : Ok 0 s) : W (m_right s) fun r => r.1 = true := by
  obtain ⟨one, s1, e1, k1, b1⟩ := thing_ok 0 s 0 k (by decide) (by decide)
  have he := b1.ok (by decide) (by decide)
  have st : (Mw.s1 (fun a0 s => m_thing s a0) (sP (some 0) s)) = some (one, s1) := by rw [sP_s, s1_s, e1]
  have r1 := row_ok he
  have mb : o2 inDG (some true) (m_marks ⟨"PostError", one⟩) = some false := by
    rw [marks_any]
    decide +kernel
  have lc : (o1 (oLc yes (fun (door : Int) => (m_caught one door))) (o1 rngG (some 3))) = some [one.shown, one.shown, one.shown] := by
    rw [o1_s, rngG_s (n := 3) (by decide) (by decide)]
    rw [o1_s, show rngL 0 3 = [0, 1, 2] from rfl]
    unfold oLc
    rw [if_pos (by simp)]
    simp only [oMap, yes, bind_s, caught_ok he, if_true]
  have rp : (o2 repG (some [one.shown]) (some 3)) = some [one.shown, one.shown, one.shown] := rfl
  unfold m_right
  rw [st, bind_s]
  dsimp only
  rw [o1_s, he, bind_s, place_row, name_row, o2_s, r1, oNot_s, Bool.not_true, oOr_f, bind_s, if_neg Bool.false_ne_true, bind_s, loop_unit fun a ha => ?_]
  · rw [bind_s]
    show W (Option.bind (oOr (o2 neDG _ _) _) _) _
    have sk : Sk.ok [one.shown, one.shown, one.shown] = true := skS fun x hx => by
      simp only [List.mem_cons, List.not_mem_nil, or_false, or_self] at hx
      rw [hx]
      exact b1.a
    have ns : neDG [one.shown, one.shown, one.shown] [one.shown, one.shown, one.shown] = some false := by
      unfold neDG
      rw [if_pos ⟨sk, sk⟩, decide_eq_true rfl]
      rfl
    rw [lc, rp, o2_s, ns, oOr_f, o2_s, neG_s, decide_eq_true rfl]
    exact itself_ok k1 (by decide)
  · have ea : a = ⟨"PostError", one⟩ := by
      simp only [List.mem_cons, List.not_mem_nil, or_false, or_self] at ha
      exact ha
    subst ea
    show (Option.bind (oOr (o2 inDG (some true) (m_marks ⟨"PostError", one⟩)) _) _) = _
    rw [mb, oOr_f, o1_s]
    show (Option.bind (oOr _ (o2 neG (reprZ one) _)) _) = _
    rw [he, o2_s, neG_s, decide_eq_true rfl]
    rfl
theorem law_true (s : List Int) (h : s.length ≤ 63) : m_law s = some true := by
  refine W_is ?_
  unfold m_law
  have e : ∃ n, repG [(0 : Int)] (b2i (decide (s = []))) = some n ∧ n.length ≤ 1 := by
    by_cases q : s = []
    · rw [decide_eq_true q]
      exact ⟨_, rfl, by decide⟩
    · rw [decide_eq_false q]
      exact ⟨_, rfl, by decide⟩
  obtain ⟨n, e, hn⟩ := e
  have c : cut s none (some 8) = s.take 8 := cut_to (n := 8)
  have lt : (s.take 8).length ≤ 8 := by simp; omega
  have eq1 : o2 eqDG (some s) (some ([] : List Int)) = some (decide (s = [])) := eqDG_s s []
  rw [eq1, oCut_s, c, o1_s, o2_s, e, o2_s, catG_s (a := s.take 8) (b := n) (by omega), bind_s, o1_s]
  rw [rngG_s (by omega) (by simp; omega)]
  refine W_beq rfl (W_bind (W_all (fun p hp => ?_) (W_some rfl)))
  have hp := rngL_mem hp
  rw [o2_s, ixG_at hp.1 hp.2]
  obtain ⟨t, e, k⟩ := trough_ok ((s.take 8 ++ n)[p.toNat]'(by omega)) p
  obtain ⟨⟨b, r⟩, e2, rfl⟩ := right_ok k
  simp only [o2_s, e, bind_s, e2, oNot_s]
  exact W_some rfl
end Pl

set_option maxHeartbeats 4000000
namespace Wk
open PySem PySem.Spec PyProof.Rows L2 Mw Mi
open Evl (Ex)
abbrev pwX := PySem.Challenge.pw_seenposts_k00_errors_keep_their_value
def topS (i : Nat) : Stmt := pwX.main.body.getD i (.Pass ⟨0, 0, 0, 0⟩)
abbrev FnP (K : PySem.W.Frag) (x : PySem.Str) (st : Stmt) (f : Addr) (fd : FuncData) : Prop := FunD K x x (defArgs st) (defBody st) (defScope st) [] [] f fd
structure Txt (mg : PySem.Str → Option Value) : Prop where
  b_dict : mg "dict" = none
  b_ValueError : mg "ValueError" = none
  b_int : mg "int" = none
  b_isinstance : mg "isinstance" = none
  b_len : mg "len" = none
  b_max : mg "max" = none
  b_range : mg "range" = none
  b_repr : mg "repr" = none
  b_tuple : mg "tuple" = none
def clsS (i j : Nat) : Stmt := match topS i with
  | .ClassDef _ _ _ b _ _ _ _ _ _ _ => b.getD j (.Pass ⟨0, 0, 0, 0⟩)
  | _ => .Pass ⟨0, 0, 0, 0⟩
abbrev FnQ (K : PySem.W.Frag) (x q : PySem.Str) (st : Stmt) (f : Addr) (fd : FuncData) : Prop := FunD K x q (defArgs st) (defBody st) (defScope st) [] [] f fd
abbrev erL : List PySem.Str := ["PostError", "InvalidSize", "InvalidPlace", "DoublePlace", "InvalidMatrix", "InvalidStep", "InvalidNumber", "InvalidWord", "Conflict", "Barred", "Taken", "Wrong", "NothingToUndo", "Unreadable"]
theorem er_PostError : ("PostError" : PySem.Str) ∈ erL := by decide
theorem er_InvalidSize : ("InvalidSize" : PySem.Str) ∈ erL := by decide
theorem er_InvalidPlace : ("InvalidPlace" : PySem.Str) ∈ erL := by decide
theorem er_DoublePlace : ("DoublePlace" : PySem.Str) ∈ erL := by decide
theorem er_InvalidMatrix : ("InvalidMatrix" : PySem.Str) ∈ erL := by decide
theorem er_InvalidStep : ("InvalidStep" : PySem.Str) ∈ erL := by decide
theorem er_InvalidNumber : ("InvalidNumber" : PySem.Str) ∈ erL := by decide
theorem er_InvalidWord : ("InvalidWord" : PySem.Str) ∈ erL := by decide
theorem er_Conflict : ("Conflict" : PySem.Str) ∈ erL := by decide
theorem er_Barred : ("Barred" : PySem.Str) ∈ erL := by decide
theorem er_Taken : ("Taken" : PySem.Str) ∈ erL := by decide
theorem er_Wrong : ("Wrong" : PySem.Str) ∈ erL := by decide
theorem er_NothingToUndo : ("NothingToUndo" : PySem.Str) ∈ erL := by decide
theorem er_Unreadable : ("Unreadable" : PySem.Str) ∈ erL := by decide
abbrev s_ei : Stmt := clsS 1 0
abbrev N_ei : List PySem.Str := ["self", "value"]
theorem sc_ei : FnScope N_ei ["self", "value"] (defScope s_ei) := ⟨rfl, rfl, rfl, by decide +kernel, rfl, by decide +kernel, by decide +kernel⟩
theorem ok_ei {P : Program} {w : World} {K : PySem.W.Frag} {mg : PySem.Str → Option Value} {base : Heap} (E_ : ErrF K mg erL) {f : Addr} {fd : FuncData} (Fn : FnQ K "__init__" "PostError.__init__" s_ei f fd) : FnOk P w K mg base CX0 1 f fd ["self", "value"] (spEI K erL) :=
  Fn.ok sc_ei (fun vs H Q E h => spEI_len h) fun cdv A outer s H vs Q E hr h => ⟨_, PSs.nox (pss_one (ps_ost (pv 0) (pv 1))), ei_body E_ (fun _ _ q => q) h⟩
structure ClsF (K : PySem.W.Frag) (mg : PySem.Str → Option Value) : Prop where
  u_ : True
abbrev s_trough : Stmt := topS 16
abbrev N_trough : List PySem.Str := ["_law_cell", "_law_k", "_law_size"]
theorem sc_trough : FnScope N_trough ["_law_cell", "_law_k"] (defScope s_trough) := ⟨rfl, rfl, rfl, by decide +kernel, rfl, by decide +kernel, by decide +kernel⟩
def sp_trough (K : PySem.W.Frag) : Sp := (Fsp2 rInt rInt rInt m_trough)
theorem ok_trough {P : Program} {w : World} {K : PySem.W.Frag} {mg : PySem.Str → Option Value} {base : Heap} (T : Txt mg) (L : ClsF K mg) (E_ : ErrF K mg erL) (S_ : SysF K) {f : Addr} {fd : FuncData} (Fn : FnP K "_law_trough" s_trough f fd) : FnOk P w K mg base CX0 1 f fd ["_law_cell", "_law_k"] (sp_trough K) := by
  refine Fn.ok sc_trough (fun vs H Q E h => Fsp2_len h) (fun cdv A outer s H vs Q E hr h => ?_)
  obtain ⟨F, v_cell, v_k_, cell, k_, res, rfl, ex, r_cell, r_k_, hm, hQ⟩ := h
  have k := Cov.init ex
  generalize hc : Act.mk H F [] = c at k hQ
  unfold m_trough at hm
  refine ⟨_, PSs.nox (pss_cons (ps_set (i := 2) sc_trough.nd rfl (Or.inl rfl) (pe_callB (call_max2 rfl) (by rfl) T.b_max (by decide +kernel) (pa_cons (pv 0) (pa_cons (pe_op op_sub pe_int (pv 0)) pa_nil)))) (pss_one (ps_ret (pe_lst (pa_cons (pe_callB (call_max2 rfl) (by rfl) T.b_max (by decide +kernel) (pa_cons pe_int (pa_cons (pe_op op_sub (pv 2) (pe_op op_pow pe_int pe_int)) pa_nil))) (pa_cons (pe_op op_mod (pe_callTy call_int1 (by rfl) T.b_int (by decide +kernel) (pa_cons (pe_op op_add (pe_op op_mulI (pv 0) pe_int) (pe_op op_mulI (pe_op op_add (pv 1) pe_int) pe_int)) pa_nil)) (pe_op op_add (pe_op op_pow pe_int pe_int) pe_int)) (pa_cons pe_int pa_nil))))))), ?_⟩
  show (_ : TS) _ [some v_cell, some v_k_, none] _
  obtain ⟨size_n, hx, hm⟩ := bind_some hm
  refine q_set (em_cb2 vc_max (em_varf (i := 0) fl_int rfl r_cell) (em_op vo_sub em_int (em_varf (i := 0) fl_int rfl r_cell))) hx k fun v_size F H e k r_size => ?_
  obtain ⟨size, ez_⟩ : ∃ z, z = size_n := ⟨_, rfl⟩; subst ez_
  show (_ : TS) _ [some v_cell, some v_k_, some v_size] _
  obtain ⟨rv, hv, hm⟩ := bind_some hm
  have hm := Option.some.inj hm
  cases hm
  exact a_retF (ef_lst (ea_cons (em_cb2 vc_max em_int (em_op vo_sub (em_varf (i := 2) fl_int rfl r_size) (em_powC (n := 18) rfl (by decide) (by decide)))) (ea_cons (em_op vo_mod (em_cb vc_int (em_op vo_add (em_op vo_mul (em_varf (i := 0) fl_int rfl r_cell) em_int) (em_op vo_mul (em_op vo_add (em_varf (i := 1) fl_int rfl r_k_) em_int) em_int))) (em_op vo_add (em_powC (n := 25) rfl (by decide) (by decide)) em_int)) (ea_cons em_int ea_nil)))) hv k fun q F H e k => hQ q F H k.last1
abbrev s_ladle : Stmt := topS 17
abbrev N_ladle : List PySem.Str := ["_law_trough_here", "_law_many", "_law_drawn", "_law_churned"]
theorem sc_ladle : FnScope N_ladle ["_law_trough_here", "_law_many"] (defScope s_ladle) := ⟨rfl, rfl, rfl, by decide +kernel, rfl, by decide +kernel, by decide +kernel⟩
def sp_ladle (K : PySem.W.Frag) : Sp := (MPsp1 (fun z => cLst rInt z) rInt rInt m_ladle)
theorem ok_ladle {P : Program} {w : World} {K : PySem.W.Frag} {mg : PySem.Str → Option Value} {base : Heap} (T : Txt mg) (L : ClsF K mg) (E_ : ErrF K mg erL) (S_ : SysF K) {f : Addr} {fd : FuncData} (Fn : FnP K "_law_ladle" s_ladle f fd) : FnOk P w K mg base CX0 1 f fd ["_law_trough_here", "_law_many"] (sp_ladle K) := by
  refine Fn.ok sc_ladle (fun vs H Q E h => MPsp1_len h) (fun cdv A outer s H vs Q E hr h => ?_)
  obtain ⟨F, p_trough_here, v_many, trough_here, many, res, s_out, rfl, k, r_many, hm, hQ⟩ := h
  generalize hc : Act.mk H F [p_trough_here] = c at k hQ
  unfold m_ladle at hm
  refine ⟨_, PSs.nox (pss_cons (ps_if (pt_cmpR op_gt (pe_ix (ix_listK K rfl) (pv 0) pe_int (fun _ _ => rfl)) pe_int (nomark _)) (pss_cons (ps_set (i := 2) sc_ladle.nd rfl (Or.inl rfl) (pe_op op_mod (pe_callTy call_int1 (by rfl) T.b_int (by decide +kernel) (pa_cons (pe_ix (ix_listK K rfl) (pv 0) pe_int (fun _ _ => rfl)) pa_nil)) (pv 1))) (pss_cons (ps_asg (pe_op op_fdivF (pe_ix (ix_listK K rfl) (pv 0) pe_int (fun _ _ => rfl)) (pv 1)) (pg_sub (pv 0) pe_int set_list)) (pss_one (ps_ret (pv 2))))) pss_nil) (pss_cons (ps_asg (pe_op op_add (pe_ix (ix_listK K rfl) (pv 0) pe_int (fun _ _ => rfl)) pe_int) (pg_sub (pv 0) pe_int set_list)) (pss_cons (ps_set (i := 3) sc_ladle.nd rfl (Or.inl rfl) (pe_op op_mod (pe_callTy call_int1 (by rfl) T.b_int (by decide +kernel) (pa_cons (pe_op op_powW (pe_op op_add (pe_ix (ix_listK K rfl) (pv 0) pe_int (fun _ _ => rfl)) (pe_op op_mulI (pe_ix (ix_listK K rfl) (pv 0) pe_int (fun _ _ => rfl)) pe_int)) pe_int) pa_nil)) (pe_op op_add (pe_op op_pow pe_int pe_int) pe_int))) (pss_one (ps_ret (pe_op op_mod (pe_op op_fdivF (pe_op op_mod (pe_callTy call_int1 (by rfl) T.b_int (by decide +kernel) (pa_cons (pe_op op_add (pe_op op_powW (pv 3) pe_int) (pe_op op_fdivF (pv 3) pe_int)) pa_nil)) (pe_op op_add (pe_op op_pow pe_int pe_int) pe_int)) pe_int) (pv 1))))))), ?_⟩
  show (_ : TS) _ [some (.ref p_trough_here), some v_many, none, none] _
  obtain ⟨b, hb, hm⟩ := bind_some hm
  refine q_ife (et_test (em_op vo_gt (el_ix (el_cell (i := 0) (j := 0) rfl rfl) em_int) em_int)) hb k (fun eb F H e k => ?_) (fun eb F H e k => ?_)
  ·
    subst eb
    have hm := hT hm
    obtain ⟨drawn_n, hx, hm⟩ := bind_some hm
    refine q_set (em_op vo_mod (em_cb vc_int (el_ix (el_cell (i := 0) (j := 0) rfl rfl) em_int)) (em_varf (i := 1) fl_int rfl r_many)) hx k fun v_drawn F H e k r_drawn => ?_
    obtain ⟨drawn, ez_⟩ : ∃ z, z = drawn_n := ⟨_, rfl⟩; subst ez_
    show (_ : TS) _ [some (.ref p_trough_here), some v_many, some v_drawn, none] _
    obtain ⟨val, hx, hm⟩ := bind_some hm
    obtain ⟨ix, hi, hm⟩ := bind_some hm
    obtain ⟨trough_here_n, hs, hm⟩ := bind_some hm
    refine q_sub (i := 0) (j := 0) rfl rfl (em_op vo_div (el_ix (el_cell (i := 0) (j := 0) rfl rfl) em_int) (em_varf (i := 1) fl_int rfl r_many)) em_int hx hi hs k fun F H e k => ?_
    obtain ⟨trough_here, ez_⟩ : ∃ z, z = trough_here_n := ⟨_, rfl⟩; subst ez_
    have k : Cov c F [(p_trough_here, cLst rInt trough_here)] H := k
    obtain ⟨rv, hv, hm⟩ := bind_some hm
    have hm := Option.some.inj hm
    cases hm
    exact a_ret (em_varf (i := 2) fl_int rfl r_drawn) hv k fun v F H e k r => hQ v F H (k.keepN 1) r
  ·
    subst eb
    have hm := hF hm
    obtain ⟨val, hx, hm⟩ := bind_some hm
    obtain ⟨ix, hi, hm⟩ := bind_some hm
    obtain ⟨trough_here_n, hs, hm⟩ := bind_some hm
    refine q_sub (i := 0) (j := 0) rfl rfl (em_op vo_add (el_ix (el_cell (i := 0) (j := 0) rfl rfl) em_int) em_int) em_int hx hi hs k fun F H e k => ?_
    obtain ⟨trough_here, ez_⟩ : ∃ z, z = trough_here_n := ⟨_, rfl⟩; subst ez_
    have k : Cov c F [(p_trough_here, cLst rInt trough_here)] H := k
    obtain ⟨churned_n, hx, hm⟩ := bind_some hm
    refine q_set (em_op vo_mod (em_cb vc_int (em_op vo_powW (em_op vo_add (el_ix (el_cell (i := 0) (j := 0) rfl rfl) em_int) (em_op vo_mul (el_ix (el_cell (i := 0) (j := 0) rfl rfl) em_int) em_int)) em_int)) (em_op vo_add (em_powC (n := 27) rfl (by decide) (by decide)) em_int)) hx k fun v_churned F H e k r_churned => ?_
    obtain ⟨churned, ez_⟩ : ∃ z, z = churned_n := ⟨_, rfl⟩; subst ez_
    show (_ : TS) _ [some (.ref p_trough_here), some v_many, none, some v_churned] _
    obtain ⟨rv, hv, hm⟩ := bind_some hm
    have hm := Option.some.inj hm
    cases hm
    exact a_ret (em_op vo_mod (em_op vo_div (em_op vo_mod (em_cb vc_int (em_op vo_add (em_op vo_powW (em_varf (i := 3) fl_int rfl r_churned) em_int) (em_op vo_div (em_varf (i := 3) fl_int rfl r_churned) em_int))) (em_op vo_add (em_powC (n := 23) rfl (by decide) (by decide)) em_int)) em_int) (em_varf (i := 1) fl_int rfl r_many)) hv k fun v F H e k r => hQ v F H (k.keepN 1) r
abbrev s_thing_0 : Stmt := topS 18
abbrev N_thing_0 : List PySem.Str := ["_law_trough_here", "_law_deep", "_law_shape", "_law_parts", "_law_turn"]
theorem sc_thing_0 : FnScope N_thing_0 ["_law_trough_here", "_law_deep"] (defScope s_thing_0) := ⟨rfl, rfl, rfl, by decide +kernel, rfl, by decide +kernel, by decide +kernel⟩
def sp_thing_0 (K : PySem.W.Frag) : Sp := (MPsp1 (fun z => cLst rInt z) rInt rDz m_thing_0)
theorem ok_thing_0 {P : Program} {w : World} {K : PySem.W.Frag} {mg : PySem.Str → Option Value} {base : Heap} (T : Txt mg) (L : ClsF K mg) (E_ : ErrF K mg erL) (S_ : SysF K) (C_ladle : Cal P w K mg base 1 "_law_ladle" ["_law_trough_here", "_law_many"] (sp_ladle K) (fun _ => True)) {f : Addr} {fd : FuncData} (Fn : FnP K "_law_thing" s_thing_0 f fd) : FnOk P w K mg base CX0 2 f fd ["_law_trough_here", "_law_deep"] (sp_thing_0 K) := by
  obtain ⟨f_ladle, fd_ladle, G_ladle, g_ladle, kp_ladle, b_ladle, _⟩ := C_ladle.ex
  refine Fn.ok sc_thing_0 (fun vs H Q E h => MPsp1_len h) (fun cdv A outer s H vs Q E hr h => ?_)
  obtain ⟨F, p_trough_here, v_deep, trough_here, deep, res, s_out, rfl, k, r_deep, hm, hQ⟩ := h
  generalize hc : Act.mk H F [p_trough_here] = c at k hQ
  unfold m_thing_0 at hm
  refine ⟨_, PSs.nox (pss_cons (ps_set (i := 2) sc_thing_0.nd rfl (Or.inl rfl) (pe_call G_ladle (hr.mono (by decide)) (by rfl) g_ladle kp_ladle b_ladle .nil pass0 (pa_cons (pv 0) (pa_cons (pe_ifExp (pt_cmpR op_lt (pv 1) pe_int (nomark _)) pe_int pe_int) pa_nil)))) (pss_cons (ps_if (pt_cmpR op_eq (pv 2) pe_int (nomark _)) (pss_one (ps_ret pe_non)) pss_nil) (pss_cons (ps_if (pt_cmpR op_eq (pv 2) pe_int (nomark _)) (pss_one (ps_ret (pe_cmpR op_eq (pe_call G_ladle (hr.mono (by decide)) (by rfl) g_ladle kp_ladle b_ladle .nil pass0 (pa_cons (pv 0) (pa_cons pe_int pa_nil))) pe_int (nomark _)))) pss_nil) (pss_cons (ps_if (pt_cmpR op_eq (pv 2) pe_int (nomark _)) (pss_one (ps_ret (pe_op op_add (pe_ix (ix_listK K rfl) (pe_lst (pa_cons pe_int (pa_cons pe_int (pa_cons (pe_op op_sub pe_int pe_int) (pa_cons (pe_op op_pow pe_int pe_int) (pa_cons (pe_op op_sub pe_int (pe_op op_pow pe_int pe_int)) pa_nil)))))) (pe_call G_ladle (hr.mono (by decide)) (by rfl) g_ladle kp_ladle b_ladle .nil pass0 (pa_cons (pv 0) (pa_cons pe_int pa_nil))) (fun _ _ => rfl)) (pe_call G_ladle (hr.mono (by decide)) (by rfl) g_ladle kp_ladle b_ladle .nil pass0 (pa_cons (pv 0) (pa_cons pe_int pa_nil)))))) pss_nil) (pss_cons (ps_if (pt_cmpR op_eq (pv 2) pe_int (nomark _)) (pss_one (ps_ret (pe_op op_mul_str (pe_ix (ix_listK K rfl) (pe_lst (pa_cons pe_str (pa_cons pe_str (pa_cons pe_str (pa_cons pe_str (pa_cons pe_str (pa_cons pe_str pa_nil))))))) (pe_call G_ladle (hr.mono (by decide)) (by rfl) g_ladle kp_ladle b_ladle .nil pass0 (pa_cons (pv 0) (pa_cons pe_int pa_nil))) (fun _ _ => rfl)) (pe_op op_add pe_int (pe_call G_ladle (hr.mono (by decide)) (by rfl) g_ladle kp_ladle b_ladle .nil pass0 (pa_cons (pv 0) (pa_cons pe_int pa_nil))))))) pss_nil) (pss_cons (ps_if (pt_cmpR op_eq (pv 2) pe_int (nomark _)) (pss_one (ps_ret (pe_ix (ix_listK K rfl) (pe_lst (pa_cons (pe_lst pa_nil) (pa_cons pe_dnewK pa_nil))) (pe_call G_ladle (hr.mono (by decide)) (by rfl) g_ladle kp_ladle b_ladle .nil pass0 (pa_cons (pv 0) (pa_cons pe_int pa_nil))) (fun _ _ => rfl)))) pss_nil) (pss_cons (ps_if (pt_cmpR op_eq (pv 2) pe_int (nomark _)) (pss_one (ps_ret (pe_tup pa_nil))) pss_nil) (pss_cons ps_never (pss_cons ps_never (pss_cons ps_never (pss_one ps_never))))))))))), ?_⟩
  show (_ : TS) _ [some (.ref p_trough_here), some v_deep, none, none, none] _
  obtain ⟨⟨shape_n, trough_here_n⟩, hx, hm⟩ := bind_some hm
  refine q_setS (cs' := (fun trough_here => [(p_trough_here, cLst rInt trough_here)])) (sm_Mcall1 (cs := (fun trough_here => [(p_trough_here, cLst rInt trough_here)])) (s := trough_here) (cell := fun z => cLst rInt z) (i0 := 0) (j0 := 0) rfl (fun _ => rfl) (fun _ _ => rfl) (EM.sm (cs := (fun trough_here => [(p_trough_here, cLst rInt trough_here)])) (s := trough_here) (em_if (et_test (em_op vo_lt (em_varf (i := 1) fl_int rfl r_deep) em_int)) em_int em_int))) hx k fun v_shape F H e k r_shape => ?_
  obtain ⟨shape, ez_⟩ : ∃ z, z = shape_n := ⟨_, rfl⟩; subst ez_
  obtain ⟨trough_here, ez_⟩ : ∃ z, z = trough_here_n := ⟨_, rfl⟩; subst ez_
  have k : Cov c F [(p_trough_here, cLst rInt trough_here)] H := k
  show (_ : TS) _ [some (.ref p_trough_here), some v_deep, some v_shape, none, none] _
  obtain ⟨b, hb, hm⟩ := bind_some hm
  refine q_ife (et_test (em_op vo_eqI (em_varf (i := 2) fl_int rfl r_shape) em_int)) hb k (fun eb F H e k => ?_) (fun eb F H e k => ?_)
  ·
    subst eb
    have hm := hT hm
    obtain ⟨rv, hv, hm⟩ := bind_some hm
    have hm := Option.some.inj hm
    cases hm
    exact a_ret em_dzN hv k fun v F H e k r => hQ v F H (k.keepN 1) r
  ·
    subst eb
    have hm := hF hm
    obtain ⟨b, hb, hm⟩ := bind_some hm
    refine q_ife (et_test (em_op vo_eqI (em_varf (i := 2) fl_int rfl r_shape) em_int)) hb k (fun eb F H e k => ?_) (fun eb F H e k => ?_)
    ·
      subst eb
      have hm := hT hm
      have hv := hm
      have hm : True := trivial
      cases hm
      exact a_retS (cs' := (fun trough_here => [(p_trough_here, cLst rInt trough_here)])) (sm_mapR (ra := rBool) (cs := (fun trough_here => [(p_trough_here, cLst rInt trough_here)])) (s := trough_here) (f := PyData.bool) dz_bool (sm_op (cs := (fun trough_here => [(p_trough_here, cLst rInt trough_here)])) (s := trough_here) vo_eqI (sm_Mcall1 (cs := (fun trough_here => [(p_trough_here, cLst rInt trough_here)])) (s := trough_here) (cell := fun z => cLst rInt z) (i0 := 0) (j0 := 0) rfl (fun _ => rfl) (fun _ _ => rfl) (EM.sm (cs := (fun trough_here => [(p_trough_here, cLst rInt trough_here)])) (s := trough_here) em_int)) fun trough_here => (EM.sm (cs := (fun trough_here => [(p_trough_here, cLst rInt trough_here)])) (s := trough_here) em_int))) hv k fun v F H e k r => hQ v F H (k.keepN 1) r
    ·
      subst eb
      have hm := hF hm
      obtain ⟨b, hb, hm⟩ := bind_some hm
      refine q_ife (et_test (em_op vo_eqI (em_varf (i := 2) fl_int rfl r_shape) em_int)) hb k (fun eb F H e k => ?_) (fun eb F H e k => ?_)
      ·
        subst eb
        have hm := hT hm
        have hv := hm
        have hm : True := trivial
        cases hm
        exact a_retS (cs' := (fun trough_here => [(p_trough_here, cLst rInt trough_here)])) (sm_mapR (ra := rInt) (cs := (fun trough_here => [(p_trough_here, cLst rInt trough_here)])) (s := trough_here) (f := PyData.int) dz_int (sm_op (cs := (fun trough_here => [(p_trough_here, cLst rInt trough_here)])) (s := trough_here) vo_add (sm_ix (cs := (fun trough_here => [(p_trough_here, cLst rInt trough_here)])) (s := trough_here) (EM.sm (cs := (fun trough_here => [(p_trough_here, cLst rInt trough_here)])) (s := trough_here) ((ef_lst (ea_cons em_int (ea_cons em_int (ea_cons (em_op vo_sub em_int em_int) (ea_cons (em_powC (n := 40) rfl (by decide) (by decide)) (ea_cons (em_op vo_sub em_int (em_powC (n := 37) rfl (by decide) (by decide))) ea_nil))))))).em) fun trough_here => (sm_Mcall1 (cs := (fun trough_here => [(p_trough_here, cLst rInt trough_here)])) (s := trough_here) (cell := fun z => cLst rInt z) (i0 := 0) (j0 := 0) rfl (fun _ => rfl) (fun _ _ => rfl) (EM.sm (cs := (fun trough_here => [(p_trough_here, cLst rInt trough_here)])) (s := trough_here) em_int))) fun trough_here => (sm_Mcall1 (cs := (fun trough_here => [(p_trough_here, cLst rInt trough_here)])) (s := trough_here) (cell := fun z => cLst rInt z) (i0 := 0) (j0 := 0) rfl (fun _ => rfl) (fun _ _ => rfl) (EM.sm (cs := (fun trough_here => [(p_trough_here, cLst rInt trough_here)])) (s := trough_here) em_int)))) hv k fun v F H e k r => hQ v F H (k.keepN 1) r
      ·
        subst eb
        have hm := hF hm
        obtain ⟨b, hb, hm⟩ := bind_some hm
        refine q_ife (et_test (em_op vo_eqI (em_varf (i := 2) fl_int rfl r_shape) em_int)) hb k (fun eb F H e k => ?_) (fun eb F H e k => ?_)
        ·
          subst eb
          have hm := hT hm
          have hv := hm
          have hm : True := trivial
          cases hm
          exact a_retS (cs' := (fun trough_here => [(p_trough_here, cLst rInt trough_here)])) (sm_mapR (ra := rStr) (cs := (fun trough_here => [(p_trough_here, cLst rInt trough_here)])) (s := trough_here) (f := PyData.str) dz_str (sm_op (cs := (fun trough_here => [(p_trough_here, cLst rInt trough_here)])) (s := trough_here) vo_mulS (sm_ix (cs := (fun trough_here => [(p_trough_here, cLst rInt trough_here)])) (s := trough_here) (EM.sm (cs := (fun trough_here => [(p_trough_here, cLst rInt trough_here)])) (s := trough_here) ((ef_lst (ea_cons em_str (ea_cons em_str (ea_cons em_str (ea_cons em_str (ea_cons em_str (ea_cons em_str ea_nil)))))))).em) fun trough_here => (sm_Mcall1 (cs := (fun trough_here => [(p_trough_here, cLst rInt trough_here)])) (s := trough_here) (cell := fun z => cLst rInt z) (i0 := 0) (j0 := 0) rfl (fun _ => rfl) (fun _ _ => rfl) (EM.sm (cs := (fun trough_here => [(p_trough_here, cLst rInt trough_here)])) (s := trough_here) em_int))) fun trough_here => (sm_op (cs := (fun trough_here => [(p_trough_here, cLst rInt trough_here)])) (s := trough_here) vo_add (EM.sm (cs := (fun trough_here => [(p_trough_here, cLst rInt trough_here)])) (s := trough_here) em_int) fun trough_here => (sm_Mcall1 (cs := (fun trough_here => [(p_trough_here, cLst rInt trough_here)])) (s := trough_here) (cell := fun z => cLst rInt z) (i0 := 0) (j0 := 0) rfl (fun _ => rfl) (fun _ _ => rfl) (EM.sm (cs := (fun trough_here => [(p_trough_here, cLst rInt trough_here)])) (s := trough_here) em_int))))) hv k fun v F H e k r => hQ v F H (k.keepN 1) r
        ·
          subst eb
          have hm := hF hm
          obtain ⟨b, hb, hm⟩ := bind_some hm
          refine q_ife (et_test (em_op vo_eqI (em_varf (i := 2) fl_int rfl r_shape) em_int)) hb k (fun eb F H e k => ?_) (fun eb F H e k => ?_)
          ·
            subst eb
            have hm := hT hm
            have hv := hm
            have hm : True := trivial
            cases hm
            exact a_retS (cs' := (fun trough_here => [(p_trough_here, cLst rInt trough_here)])) (sm_ix (cs := (fun trough_here => [(p_trough_here, cLst rInt trough_here)])) (s := trough_here) (EM.sm (cs := (fun trough_here => [(p_trough_here, cLst rInt trough_here)])) (s := trough_here) ((ef_lst (ea_cons (em_eq (m' := (some (PyData.list []))) (em_mapR (ra := (rLst rDz)) (g := PyData.list) dz_lst ((ef_lst (ra := rDz) ea_nil)).em) rfl) (ea_cons em_dz0 ea_nil)))).em) fun trough_here => (sm_Mcall1 (cs := (fun trough_here => [(p_trough_here, cLst rInt trough_here)])) (s := trough_here) (cell := fun z => cLst rInt z) (i0 := 0) (j0 := 0) rfl (fun _ => rfl) (fun _ _ => rfl) (EM.sm (cs := (fun trough_here => [(p_trough_here, cLst rInt trough_here)])) (s := trough_here) em_int))) hv k fun v F H e k r => hQ v F H (k.keepN 1) r
          ·
            subst eb
            have hm := hF hm
            obtain ⟨b, hb, hm⟩ := bind_some hm
            refine q_ife (et_test (em_op vo_eqI (em_varf (i := 2) fl_int rfl r_shape) em_int)) hb k (fun eb F H e k => ?_) (fun eb F H e k => ?_)
            ·
              subst eb
              have hm := hT hm
              obtain ⟨rv, hv, hm⟩ := bind_some hm
              have hm := Option.some.inj hm
              cases hm
              exact a_ret (em_eq (m' := (some (PyData.tuple []))) (em_mapR (ra := (rTup K rDz)) (g := PyData.tuple) (dz_tup (K := K)) (em_eq (m' := (some ([] : List PyData))) (em_tup (ra := rDz) ea_nil) rfl)) rfl) hv k fun v F H e k r => hQ v F H (k.keepN 1) r
            ·
              subst eb
              have hm := hF hm
              cases hm
abbrev s_thing_1 : Stmt := topS 18
abbrev N_thing_1 : List PySem.Str := ["_law_trough_here", "_law_deep", "_law_shape", "_law_parts", "_law_turn"]
theorem sc_thing_1 : FnScope N_thing_1 ["_law_trough_here", "_law_deep"] (defScope s_thing_1) := ⟨rfl, rfl, rfl, by decide +kernel, rfl, by decide +kernel, by decide +kernel⟩
def sp_thing_1 (K : PySem.W.Frag) : Sp := (MPsp1 (fun z => cLst rInt z) rInt rDz m_thing_1)
theorem ok_thing_1 {P : Program} {w : World} {K : PySem.W.Frag} {mg : PySem.Str → Option Value} {base : Heap} (T : Txt mg) (L : ClsF K mg) (E_ : ErrF K mg erL) (S_ : SysF K) (C_ladle : Cal P w K mg base 1 "_law_ladle" ["_law_trough_here", "_law_many"] (sp_ladle K) (fun _ => True)) (C_thing_0 : Cal P w K mg base 2 "_law_thing" ["_law_trough_here", "_law_deep"] (sp_thing_0 K) (fun _ => True)) {f : Addr} {fd : FuncData} (Fn : FnP K "_law_thing" s_thing_1 f fd) : FnOk P w K mg base CX0 3 f fd ["_law_trough_here", "_law_deep"] (sp_thing_1 K) := by
  obtain ⟨f_ladle, fd_ladle, G_ladle, g_ladle, kp_ladle, b_ladle, _⟩ := C_ladle.ex
  obtain ⟨f_thing_0, fd_thing_0, G_thing_0, g_thing_0, kp_thing_0, b_thing_0, _⟩ := C_thing_0.ex
  refine Fn.ok sc_thing_1 (fun vs H Q E h => MPsp1_len h) (fun cdv A outer s H vs Q E hr h => ?_)
  obtain ⟨F, p_trough_here, v_deep, trough_here, deep, res, s_out, rfl, k, r_deep, hm, hQ⟩ := h
  generalize hc : Act.mk H F [p_trough_here] = c at k hQ
  unfold m_thing_1 at hm
  refine ⟨_, PSs.nox (pss_cons (ps_set (i := 2) sc_thing_1.nd rfl (Or.inl rfl) (pe_call G_ladle (hr.mono (by decide)) (by rfl) g_ladle kp_ladle b_ladle .nil pass0 (pa_cons (pv 0) (pa_cons (pe_ifExp (pt_cmpR op_lt (pv 1) pe_int (nomark _)) pe_int pe_int) pa_nil)))) (pss_cons (ps_if (pt_cmpR op_eq (pv 2) pe_int (nomark _)) (pss_one (ps_ret pe_non)) pss_nil) (pss_cons (ps_if (pt_cmpR op_eq (pv 2) pe_int (nomark _)) (pss_one (ps_ret (pe_cmpR op_eq (pe_call G_ladle (hr.mono (by decide)) (by rfl) g_ladle kp_ladle b_ladle .nil pass0 (pa_cons (pv 0) (pa_cons pe_int pa_nil))) pe_int (nomark _)))) pss_nil) (pss_cons (ps_if (pt_cmpR op_eq (pv 2) pe_int (nomark _)) (pss_one (ps_ret (pe_op op_add (pe_ix (ix_listK K rfl) (pe_lst (pa_cons pe_int (pa_cons pe_int (pa_cons (pe_op op_sub pe_int pe_int) (pa_cons (pe_op op_pow pe_int pe_int) (pa_cons (pe_op op_sub pe_int (pe_op op_pow pe_int pe_int)) pa_nil)))))) (pe_call G_ladle (hr.mono (by decide)) (by rfl) g_ladle kp_ladle b_ladle .nil pass0 (pa_cons (pv 0) (pa_cons pe_int pa_nil))) (fun _ _ => rfl)) (pe_call G_ladle (hr.mono (by decide)) (by rfl) g_ladle kp_ladle b_ladle .nil pass0 (pa_cons (pv 0) (pa_cons pe_int pa_nil)))))) pss_nil) (pss_cons (ps_if (pt_cmpR op_eq (pv 2) pe_int (nomark _)) (pss_one (ps_ret (pe_op op_mul_str (pe_ix (ix_listK K rfl) (pe_lst (pa_cons pe_str (pa_cons pe_str (pa_cons pe_str (pa_cons pe_str (pa_cons pe_str (pa_cons pe_str pa_nil))))))) (pe_call G_ladle (hr.mono (by decide)) (by rfl) g_ladle kp_ladle b_ladle .nil pass0 (pa_cons (pv 0) (pa_cons pe_int pa_nil))) (fun _ _ => rfl)) (pe_op op_add pe_int (pe_call G_ladle (hr.mono (by decide)) (by rfl) g_ladle kp_ladle b_ladle .nil pass0 (pa_cons (pv 0) (pa_cons pe_int pa_nil))))))) pss_nil) (pss_cons (ps_if (pt_cmpR op_eq (pv 2) pe_int (nomark _)) (pss_one (ps_ret (pe_ix (ix_listK K rfl) (pe_lst (pa_cons (pe_lst pa_nil) (pa_cons pe_dnewK pa_nil))) (pe_call G_ladle (hr.mono (by decide)) (by rfl) g_ladle kp_ladle b_ladle .nil pass0 (pa_cons (pv 0) (pa_cons pe_int pa_nil))) (fun _ _ => rfl)))) pss_nil) (pss_cons (ps_if (pt_cmpR op_eq (pv 2) pe_int (nomark _)) (pss_one (ps_ret (pe_tup pa_nil))) pss_nil) (pss_cons (ps_setLc (i := 3) (own := [("_law_turn", 4)]) (g := (gName 4)) (tt := tYes) rfl sc_thing_1.nd rfl rfl (sw_true rfl rfl rfl (by decide +kernel)) (pi_range1 (by rfl) T.b_range (pa_cons (pe_op op_add pe_int (pe_call G_ladle (hr.mono (by decide)) (by rfl) g_ladle kp_ladle b_ladle .nil pass0 (pa_cons (pv 0) (pa_cons pe_int pa_nil)))) pa_nil)) (blkOk_by (N := N_thing_1) (sc := defScope s_thing_1) (by decide +kernel)) (fun _ _ _ _ _ => (pg_name (i := 4) sc_thing_1.nd rfl (Or.inl rfl))) (fun _ _ _ _ _ => pts_nil) (fun _ _ _ _ _ => (pe_call G_thing_0 (hr.mono (by decide)) (by rfl) g_thing_0 kp_thing_0 b_thing_0 .nil pass0 (pa_cons (pv 0) (pa_cons (pe_op op_add (pv 1) pe_int) pa_nil))))) (pss_cons (ps_if (pt_cmpR op_eq (pv 2) pe_int (nomark _)) (pss_one (ps_ret (pv 3))) pss_nil) (pss_cons (ps_if (pt_cmpR op_eq (pv 2) pe_int (nomark _)) (pss_one (ps_ret (pe_callTy (call_tuple_ofK K rfl) (by rfl) T.b_tuple (by decide +kernel) (pa_cons (pv 3) pa_nil)))) pss_nil) (pss_one (ps_ret (pe_disp (pps_cons pe_str (pv 3) (pps_cons pe_str (pe_call G_ladle (hr.mono (by decide)) (by rfl) g_ladle kp_ladle b_ladle .nil pass0 (pa_cons (pv 0) (pa_cons pe_int pa_nil))) pps_nil)) rfl rfl (by simp) (by decide)))))))))))))), ?_⟩
  show (_ : TS) _ [some (.ref p_trough_here), some v_deep, none, none, none] _
  obtain ⟨⟨shape_n, trough_here_n⟩, hx, hm⟩ := bind_some hm
  refine q_setS (cs' := (fun trough_here => [(p_trough_here, cLst rInt trough_here)])) (sm_Mcall1 (cs := (fun trough_here => [(p_trough_here, cLst rInt trough_here)])) (s := trough_here) (cell := fun z => cLst rInt z) (i0 := 0) (j0 := 0) rfl (fun _ => rfl) (fun _ _ => rfl) (EM.sm (cs := (fun trough_here => [(p_trough_here, cLst rInt trough_here)])) (s := trough_here) (em_if (et_test (em_op vo_lt (em_varf (i := 1) fl_int rfl r_deep) em_int)) em_int em_int))) hx k fun v_shape F H e k r_shape => ?_
  obtain ⟨shape, ez_⟩ : ∃ z, z = shape_n := ⟨_, rfl⟩; subst ez_
  obtain ⟨trough_here, ez_⟩ : ∃ z, z = trough_here_n := ⟨_, rfl⟩; subst ez_
  have k : Cov c F [(p_trough_here, cLst rInt trough_here)] H := k
  show (_ : TS) _ [some (.ref p_trough_here), some v_deep, some v_shape, none, none] _
  obtain ⟨b, hb, hm⟩ := bind_some hm
  refine q_ife (et_test (em_op vo_eqI (em_varf (i := 2) fl_int rfl r_shape) em_int)) hb k (fun eb F H e k => ?_) (fun eb F H e k => ?_)
  ·
    subst eb
    have hm := hT hm
    obtain ⟨rv, hv, hm⟩ := bind_some hm
    have hm := Option.some.inj hm
    cases hm
    exact a_ret em_dzN hv k fun v F H e k r => hQ v F H (k.keepN 1) r
  ·
    subst eb
    have hm := hF hm
    obtain ⟨b, hb, hm⟩ := bind_some hm
    refine q_ife (et_test (em_op vo_eqI (em_varf (i := 2) fl_int rfl r_shape) em_int)) hb k (fun eb F H e k => ?_) (fun eb F H e k => ?_)
    ·
      subst eb
      have hm := hT hm
      have hv := hm
      have hm : True := trivial
      cases hm
      exact a_retS (cs' := (fun trough_here => [(p_trough_here, cLst rInt trough_here)])) (sm_mapR (ra := rBool) (cs := (fun trough_here => [(p_trough_here, cLst rInt trough_here)])) (s := trough_here) (f := PyData.bool) dz_bool (sm_op (cs := (fun trough_here => [(p_trough_here, cLst rInt trough_here)])) (s := trough_here) vo_eqI (sm_Mcall1 (cs := (fun trough_here => [(p_trough_here, cLst rInt trough_here)])) (s := trough_here) (cell := fun z => cLst rInt z) (i0 := 0) (j0 := 0) rfl (fun _ => rfl) (fun _ _ => rfl) (EM.sm (cs := (fun trough_here => [(p_trough_here, cLst rInt trough_here)])) (s := trough_here) em_int)) fun trough_here => (EM.sm (cs := (fun trough_here => [(p_trough_here, cLst rInt trough_here)])) (s := trough_here) em_int))) hv k fun v F H e k r => hQ v F H (k.keepN 1) r
    ·
      subst eb
      have hm := hF hm
      obtain ⟨b, hb, hm⟩ := bind_some hm
      refine q_ife (et_test (em_op vo_eqI (em_varf (i := 2) fl_int rfl r_shape) em_int)) hb k (fun eb F H e k => ?_) (fun eb F H e k => ?_)
      ·
        subst eb
        have hm := hT hm
        have hv := hm
        have hm : True := trivial
        cases hm
        exact a_retS (cs' := (fun trough_here => [(p_trough_here, cLst rInt trough_here)])) (sm_mapR (ra := rInt) (cs := (fun trough_here => [(p_trough_here, cLst rInt trough_here)])) (s := trough_here) (f := PyData.int) dz_int (sm_op (cs := (fun trough_here => [(p_trough_here, cLst rInt trough_here)])) (s := trough_here) vo_add (sm_ix (cs := (fun trough_here => [(p_trough_here, cLst rInt trough_here)])) (s := trough_here) (EM.sm (cs := (fun trough_here => [(p_trough_here, cLst rInt trough_here)])) (s := trough_here) ((ef_lst (ea_cons em_int (ea_cons em_int (ea_cons (em_op vo_sub em_int em_int) (ea_cons (em_powC (n := 40) rfl (by decide) (by decide)) (ea_cons (em_op vo_sub em_int (em_powC (n := 37) rfl (by decide) (by decide))) ea_nil))))))).em) fun trough_here => (sm_Mcall1 (cs := (fun trough_here => [(p_trough_here, cLst rInt trough_here)])) (s := trough_here) (cell := fun z => cLst rInt z) (i0 := 0) (j0 := 0) rfl (fun _ => rfl) (fun _ _ => rfl) (EM.sm (cs := (fun trough_here => [(p_trough_here, cLst rInt trough_here)])) (s := trough_here) em_int))) fun trough_here => (sm_Mcall1 (cs := (fun trough_here => [(p_trough_here, cLst rInt trough_here)])) (s := trough_here) (cell := fun z => cLst rInt z) (i0 := 0) (j0 := 0) rfl (fun _ => rfl) (fun _ _ => rfl) (EM.sm (cs := (fun trough_here => [(p_trough_here, cLst rInt trough_here)])) (s := trough_here) em_int)))) hv k fun v F H e k r => hQ v F H (k.keepN 1) r
      ·
        subst eb
        have hm := hF hm
        obtain ⟨b, hb, hm⟩ := bind_some hm
        refine q_ife (et_test (em_op vo_eqI (em_varf (i := 2) fl_int rfl r_shape) em_int)) hb k (fun eb F H e k => ?_) (fun eb F H e k => ?_)
        ·
          subst eb
          have hm := hT hm
          have hv := hm
          have hm : True := trivial
          cases hm
          exact a_retS (cs' := (fun trough_here => [(p_trough_here, cLst rInt trough_here)])) (sm_mapR (ra := rStr) (cs := (fun trough_here => [(p_trough_here, cLst rInt trough_here)])) (s := trough_here) (f := PyData.str) dz_str (sm_op (cs := (fun trough_here => [(p_trough_here, cLst rInt trough_here)])) (s := trough_here) vo_mulS (sm_ix (cs := (fun trough_here => [(p_trough_here, cLst rInt trough_here)])) (s := trough_here) (EM.sm (cs := (fun trough_here => [(p_trough_here, cLst rInt trough_here)])) (s := trough_here) ((ef_lst (ea_cons em_str (ea_cons em_str (ea_cons em_str (ea_cons em_str (ea_cons em_str (ea_cons em_str ea_nil)))))))).em) fun trough_here => (sm_Mcall1 (cs := (fun trough_here => [(p_trough_here, cLst rInt trough_here)])) (s := trough_here) (cell := fun z => cLst rInt z) (i0 := 0) (j0 := 0) rfl (fun _ => rfl) (fun _ _ => rfl) (EM.sm (cs := (fun trough_here => [(p_trough_here, cLst rInt trough_here)])) (s := trough_here) em_int))) fun trough_here => (sm_op (cs := (fun trough_here => [(p_trough_here, cLst rInt trough_here)])) (s := trough_here) vo_add (EM.sm (cs := (fun trough_here => [(p_trough_here, cLst rInt trough_here)])) (s := trough_here) em_int) fun trough_here => (sm_Mcall1 (cs := (fun trough_here => [(p_trough_here, cLst rInt trough_here)])) (s := trough_here) (cell := fun z => cLst rInt z) (i0 := 0) (j0 := 0) rfl (fun _ => rfl) (fun _ _ => rfl) (EM.sm (cs := (fun trough_here => [(p_trough_here, cLst rInt trough_here)])) (s := trough_here) em_int))))) hv k fun v F H e k r => hQ v F H (k.keepN 1) r
        ·
          subst eb
          have hm := hF hm
          obtain ⟨b, hb, hm⟩ := bind_some hm
          refine q_ife (et_test (em_op vo_eqI (em_varf (i := 2) fl_int rfl r_shape) em_int)) hb k (fun eb F H e k => ?_) (fun eb F H e k => ?_)
          ·
            subst eb
            have hm := hT hm
            have hv := hm
            have hm : True := trivial
            cases hm
            exact a_retS (cs' := (fun trough_here => [(p_trough_here, cLst rInt trough_here)])) (sm_ix (cs := (fun trough_here => [(p_trough_here, cLst rInt trough_here)])) (s := trough_here) (EM.sm (cs := (fun trough_here => [(p_trough_here, cLst rInt trough_here)])) (s := trough_here) ((ef_lst (ea_cons (em_eq (m' := (some (PyData.list []))) (em_mapR (ra := (rLst rDz)) (g := PyData.list) dz_lst ((ef_lst (ra := rDz) ea_nil)).em) rfl) (ea_cons em_dz0 ea_nil)))).em) fun trough_here => (sm_Mcall1 (cs := (fun trough_here => [(p_trough_here, cLst rInt trough_here)])) (s := trough_here) (cell := fun z => cLst rInt z) (i0 := 0) (j0 := 0) rfl (fun _ => rfl) (fun _ _ => rfl) (EM.sm (cs := (fun trough_here => [(p_trough_here, cLst rInt trough_here)])) (s := trough_here) em_int))) hv k fun v F H e k r => hQ v F H (k.keepN 1) r
          ·
            subst eb
            have hm := hF hm
            obtain ⟨b, hb, hm⟩ := bind_some hm
            refine q_ife (et_test (em_op vo_eqI (em_varf (i := 2) fl_int rfl r_shape) em_int)) hb k (fun eb F H e k => ?_) (fun eb F H e k => ?_)
            ·
              subst eb
              have hm := hT hm
              obtain ⟨rv, hv, hm⟩ := bind_some hm
              have hm := Option.some.inj hm
              cases hm
              exact a_ret (em_eq (m' := (some (PyData.tuple []))) (em_mapR (ra := (rTup K rDz)) (g := PyData.tuple) (dz_tup (K := K)) (em_eq (m' := (some ([] : List PyData))) (em_tup (ra := rDz) ea_nil) rfl)) rfl) hv k fun v F H e k r => hQ v F H (k.keepN 1) r
            ·
              subst eb
              have hm := hF hm
              obtain ⟨⟨parts_n, trough_here_n⟩, hx, hm⟩ := bind_some hm
              refine q_setS (cs' := (fun trough_here => [(p_trough_here, cLst rInt trough_here)])) (SF.sm (cs := (fun trough_here => [(p_trough_here, cLst rInt trough_here)])) (s := trough_here) (sf_lcS (K := K) (cs := (fun trough_here => [(p_trough_here, cLst rInt trough_here)])) (s := trough_here) (f := fun (turn : Int) => fun trough_here => (s1 (fun a0 s => m_thing_0 s a0) (sP (some (deep + 1)) trough_here))) (S := (fun d F1 σ2 => ∃ v_turn, σ2 = [some (.ref p_trough_here), some v_deep, some v_shape, none, some v_turn] ∧ rInt.r F1 v_turn d)) (si_rng1 (cs := (fun trough_here => [(p_trough_here, cLst rInt trough_here)])) (s := trough_here) (sm_op (cs := (fun trough_here => [(p_trough_here, cLst rInt trough_here)])) (s := trough_here) vo_add (EM.sm (cs := (fun trough_here => [(p_trough_here, cLst rInt trough_here)])) (s := trough_here) em_int) fun trough_here => (sm_Mcall1 (cs := (fun trough_here => [(p_trough_here, cLst rInt trough_here)])) (s := trough_here) (cell := fun z => cLst rInt z) (i0 := 0) (j0 := 0) rfl (fun _ => rfl) (fun _ _ => rfl) (EM.sm (cs := (fun trough_here => [(p_trough_here, cLst rInt trough_here)])) (s := trough_here) em_int)))) (gt_name (fun _ => rfl)) (fun d F1 σ2 hs => by obtain ⟨_, rfl, _⟩ := hs; rfl) (by intro turn F1 σ2 trough_here e1 hs; obtain ⟨v_turn, rfl, r_turn⟩ := hs; exact (sm_Mcall1 (cs := (fun trough_here => [(p_trough_here, cLst rInt trough_here)])) (s := trough_here) (cell := fun z => cLst rInt z) (i0 := 0) (j0 := 0) rfl (fun _ => rfl) (fun _ _ => rfl) (EM.sm (cs := (fun trough_here => [(p_trough_here, cLst rInt trough_here)])) (s := trough_here) (em_op vo_add (em_varf (i := 1) fl_int rfl r_deep) em_int)))) (fun _ _ => rfl))) hx k fun v_parts F H e k r_parts => ?_
              obtain ⟨parts, ez_⟩ : ∃ z, z = parts_n := ⟨_, rfl⟩; subst ez_
              obtain ⟨trough_here, ez_⟩ : ∃ z, z = trough_here_n := ⟨_, rfl⟩; subst ez_
              have k : Cov c F [(p_trough_here, cLst rInt trough_here)] H := k
              show (_ : TS) _ [some (.ref p_trough_here), some v_deep, some v_shape, some v_parts, none] _
              obtain ⟨b, hb, hm⟩ := bind_some hm
              refine q_ife (et_test (em_op vo_eqI (em_varf (i := 2) fl_int rfl r_shape) em_int)) hb k (fun eb F H e k => ?_) (fun eb F H e k => ?_)
              ·
                subst eb
                have hm := hT hm
                have r_parts := (rLst rDz).up e r_parts
                obtain ⟨rv, hv, hm⟩ := bind_some hm
                have hm := Option.some.inj hm
                cases hm
                exact a_ret (em_eq (m' := (some (PyData.list parts))) (em_mapR (ra := (rLst rDz)) (g := PyData.list) dz_lst (em_var (i := 3) rfl r_parts)) rfl) hv k fun v F H e k r => hQ v F H (k.keepN 1) r
              ·
                subst eb
                have hm := hF hm
                have r_parts := (rLst rDz).up e r_parts
                obtain ⟨b, hb, hm⟩ := bind_some hm
                refine q_ife (et_test (em_op vo_eqI (em_varf (i := 2) fl_int rfl r_shape) em_int)) hb k (fun eb F H e k => ?_) (fun eb F H e k => ?_)
                ·
                  subst eb
                  have hm := hT hm
                  have r_parts := (rLst rDz).up e r_parts
                  obtain ⟨rv, hv, hm⟩ := bind_some hm
                  have hm := Option.some.inj hm
                  cases hm
                  exact a_ret (em_eq (m' := (some (PyData.tuple parts))) (em_mapR (ra := (rTup K rDz)) (g := PyData.tuple) (dz_tup (K := K)) (el_tuple ((em_var (i := 3) rfl r_parts)).el)) rfl) hv k fun v F H e k r => hQ v F H (k.keepN 1) r
                ·
                  subst eb
                  have hm := hF hm
                  have r_parts := (rLst rDz).up e r_parts
                  have hv := hm
                  have hm : True := trivial
                  cases hm
                  exact a_retS (cs' := (fun trough_here => [(p_trough_here, cLst rInt trough_here)])) (sm_disp2 (cs := (fun trough_here => [(p_trough_here, cLst rInt trough_here)])) (s := trough_here) (k1 := "seen") (k2 := "hidden") (by decide) (fun p_dd_ => (em_eq (m' := (some (PyData.list parts))) (em_mapR (ra := (rLst rDz)) (g := PyData.list) dz_lst (em_var (i := 3) rfl r_parts)) rfl)) (fun p_dd_ => (sm_mapR (ra := rInt) (cs := (fun trough_here => [(p_dd_, cE), (p_trough_here, cLst rInt trough_here)])) (s := trough_here) (f := PyData.int) dz_int (sm_Mcall1 (cs := (fun trough_here => [(p_dd_, cE), (p_trough_here, cLst rInt trough_here)])) (s := trough_here) (cell := fun z => cLst rInt z) (i0 := 0) (j0 := 1) rfl (fun _ => rfl) (fun _ _ => rfl) (EM.sm (cs := (fun trough_here => [(p_dd_, cE), (p_trough_here, cLst rInt trough_here)])) (s := trough_here) em_int))))) hv k fun v F H e k r => hQ v F H (k.keepN 1) r
abbrev s_thing_2 : Stmt := topS 18
abbrev N_thing_2 : List PySem.Str := ["_law_trough_here", "_law_deep", "_law_shape", "_law_parts", "_law_turn"]
theorem sc_thing_2 : FnScope N_thing_2 ["_law_trough_here", "_law_deep"] (defScope s_thing_2) := ⟨rfl, rfl, rfl, by decide +kernel, rfl, by decide +kernel, by decide +kernel⟩
def sp_thing_2 (K : PySem.W.Frag) : Sp := (MPsp1 (fun z => cLst rInt z) rInt rDz m_thing_2)
theorem ok_thing_2 {P : Program} {w : World} {K : PySem.W.Frag} {mg : PySem.Str → Option Value} {base : Heap} (T : Txt mg) (L : ClsF K mg) (E_ : ErrF K mg erL) (S_ : SysF K) (C_ladle : Cal P w K mg base 1 "_law_ladle" ["_law_trough_here", "_law_many"] (sp_ladle K) (fun _ => True)) (C_thing_1 : Cal P w K mg base 3 "_law_thing" ["_law_trough_here", "_law_deep"] (sp_thing_1 K) (fun _ => True)) {f : Addr} {fd : FuncData} (Fn : FnP K "_law_thing" s_thing_2 f fd) : FnOk P w K mg base CX0 4 f fd ["_law_trough_here", "_law_deep"] (sp_thing_2 K) := by
  obtain ⟨f_ladle, fd_ladle, G_ladle, g_ladle, kp_ladle, b_ladle, _⟩ := C_ladle.ex
  obtain ⟨f_thing_1, fd_thing_1, G_thing_1, g_thing_1, kp_thing_1, b_thing_1, _⟩ := C_thing_1.ex
  refine Fn.ok sc_thing_2 (fun vs H Q E h => MPsp1_len h) (fun cdv A outer s H vs Q E hr h => ?_)
  obtain ⟨F, p_trough_here, v_deep, trough_here, deep, res, s_out, rfl, k, r_deep, hm, hQ⟩ := h
  generalize hc : Act.mk H F [p_trough_here] = c at k hQ
  unfold m_thing_2 at hm
  refine ⟨_, PSs.nox (pss_cons (ps_set (i := 2) sc_thing_2.nd rfl (Or.inl rfl) (pe_call G_ladle (hr.mono (by decide)) (by rfl) g_ladle kp_ladle b_ladle .nil pass0 (pa_cons (pv 0) (pa_cons (pe_ifExp (pt_cmpR op_lt (pv 1) pe_int (nomark _)) pe_int pe_int) pa_nil)))) (pss_cons (ps_if (pt_cmpR op_eq (pv 2) pe_int (nomark _)) (pss_one (ps_ret pe_non)) pss_nil) (pss_cons (ps_if (pt_cmpR op_eq (pv 2) pe_int (nomark _)) (pss_one (ps_ret (pe_cmpR op_eq (pe_call G_ladle (hr.mono (by decide)) (by rfl) g_ladle kp_ladle b_ladle .nil pass0 (pa_cons (pv 0) (pa_cons pe_int pa_nil))) pe_int (nomark _)))) pss_nil) (pss_cons (ps_if (pt_cmpR op_eq (pv 2) pe_int (nomark _)) (pss_one (ps_ret (pe_op op_add (pe_ix (ix_listK K rfl) (pe_lst (pa_cons pe_int (pa_cons pe_int (pa_cons (pe_op op_sub pe_int pe_int) (pa_cons (pe_op op_pow pe_int pe_int) (pa_cons (pe_op op_sub pe_int (pe_op op_pow pe_int pe_int)) pa_nil)))))) (pe_call G_ladle (hr.mono (by decide)) (by rfl) g_ladle kp_ladle b_ladle .nil pass0 (pa_cons (pv 0) (pa_cons pe_int pa_nil))) (fun _ _ => rfl)) (pe_call G_ladle (hr.mono (by decide)) (by rfl) g_ladle kp_ladle b_ladle .nil pass0 (pa_cons (pv 0) (pa_cons pe_int pa_nil)))))) pss_nil) (pss_cons (ps_if (pt_cmpR op_eq (pv 2) pe_int (nomark _)) (pss_one (ps_ret (pe_op op_mul_str (pe_ix (ix_listK K rfl) (pe_lst (pa_cons pe_str (pa_cons pe_str (pa_cons pe_str (pa_cons pe_str (pa_cons pe_str (pa_cons pe_str pa_nil))))))) (pe_call G_ladle (hr.mono (by decide)) (by rfl) g_ladle kp_ladle b_ladle .nil pass0 (pa_cons (pv 0) (pa_cons pe_int pa_nil))) (fun _ _ => rfl)) (pe_op op_add pe_int (pe_call G_ladle (hr.mono (by decide)) (by rfl) g_ladle kp_ladle b_ladle .nil pass0 (pa_cons (pv 0) (pa_cons pe_int pa_nil))))))) pss_nil) (pss_cons (ps_if (pt_cmpR op_eq (pv 2) pe_int (nomark _)) (pss_one (ps_ret (pe_ix (ix_listK K rfl) (pe_lst (pa_cons (pe_lst pa_nil) (pa_cons pe_dnewK pa_nil))) (pe_call G_ladle (hr.mono (by decide)) (by rfl) g_ladle kp_ladle b_ladle .nil pass0 (pa_cons (pv 0) (pa_cons pe_int pa_nil))) (fun _ _ => rfl)))) pss_nil) (pss_cons (ps_if (pt_cmpR op_eq (pv 2) pe_int (nomark _)) (pss_one (ps_ret (pe_tup pa_nil))) pss_nil) (pss_cons (ps_setLc (i := 3) (own := [("_law_turn", 4)]) (g := (gName 4)) (tt := tYes) rfl sc_thing_2.nd rfl rfl (sw_true rfl rfl rfl (by decide +kernel)) (pi_range1 (by rfl) T.b_range (pa_cons (pe_op op_add pe_int (pe_call G_ladle (hr.mono (by decide)) (by rfl) g_ladle kp_ladle b_ladle .nil pass0 (pa_cons (pv 0) (pa_cons pe_int pa_nil)))) pa_nil)) (blkOk_by (N := N_thing_2) (sc := defScope s_thing_2) (by decide +kernel)) (fun _ _ _ _ _ => (pg_name (i := 4) sc_thing_2.nd rfl (Or.inl rfl))) (fun _ _ _ _ _ => pts_nil) (fun _ _ _ _ _ => (pe_call G_thing_1 (hr.mono (by decide)) (by rfl) g_thing_1 kp_thing_1 b_thing_1 .nil pass0 (pa_cons (pv 0) (pa_cons (pe_op op_add (pv 1) pe_int) pa_nil))))) (pss_cons (ps_if (pt_cmpR op_eq (pv 2) pe_int (nomark _)) (pss_one (ps_ret (pv 3))) pss_nil) (pss_cons (ps_if (pt_cmpR op_eq (pv 2) pe_int (nomark _)) (pss_one (ps_ret (pe_callTy (call_tuple_ofK K rfl) (by rfl) T.b_tuple (by decide +kernel) (pa_cons (pv 3) pa_nil)))) pss_nil) (pss_one (ps_ret (pe_disp (pps_cons pe_str (pv 3) (pps_cons pe_str (pe_call G_ladle (hr.mono (by decide)) (by rfl) g_ladle kp_ladle b_ladle .nil pass0 (pa_cons (pv 0) (pa_cons pe_int pa_nil))) pps_nil)) rfl rfl (by simp) (by decide)))))))))))))), ?_⟩
  show (_ : TS) _ [some (.ref p_trough_here), some v_deep, none, none, none] _
  obtain ⟨⟨shape_n, trough_here_n⟩, hx, hm⟩ := bind_some hm
  refine q_setS (cs' := (fun trough_here => [(p_trough_here, cLst rInt trough_here)])) (sm_Mcall1 (cs := (fun trough_here => [(p_trough_here, cLst rInt trough_here)])) (s := trough_here) (cell := fun z => cLst rInt z) (i0 := 0) (j0 := 0) rfl (fun _ => rfl) (fun _ _ => rfl) (EM.sm (cs := (fun trough_here => [(p_trough_here, cLst rInt trough_here)])) (s := trough_here) (em_if (et_test (em_op vo_lt (em_varf (i := 1) fl_int rfl r_deep) em_int)) em_int em_int))) hx k fun v_shape F H e k r_shape => ?_
  obtain ⟨shape, ez_⟩ : ∃ z, z = shape_n := ⟨_, rfl⟩; subst ez_
  obtain ⟨trough_here, ez_⟩ : ∃ z, z = trough_here_n := ⟨_, rfl⟩; subst ez_
  have k : Cov c F [(p_trough_here, cLst rInt trough_here)] H := k
  show (_ : TS) _ [some (.ref p_trough_here), some v_deep, some v_shape, none, none] _
  obtain ⟨b, hb, hm⟩ := bind_some hm
  refine q_ife (et_test (em_op vo_eqI (em_varf (i := 2) fl_int rfl r_shape) em_int)) hb k (fun eb F H e k => ?_) (fun eb F H e k => ?_)
  ·
    subst eb
    have hm := hT hm
    obtain ⟨rv, hv, hm⟩ := bind_some hm
    have hm := Option.some.inj hm
    cases hm
    exact a_ret em_dzN hv k fun v F H e k r => hQ v F H (k.keepN 1) r
  ·
    subst eb
    have hm := hF hm
    obtain ⟨b, hb, hm⟩ := bind_some hm
    refine q_ife (et_test (em_op vo_eqI (em_varf (i := 2) fl_int rfl r_shape) em_int)) hb k (fun eb F H e k => ?_) (fun eb F H e k => ?_)
    ·
      subst eb
      have hm := hT hm
      have hv := hm
      have hm : True := trivial
      cases hm
      exact a_retS (cs' := (fun trough_here => [(p_trough_here, cLst rInt trough_here)])) (sm_mapR (ra := rBool) (cs := (fun trough_here => [(p_trough_here, cLst rInt trough_here)])) (s := trough_here) (f := PyData.bool) dz_bool (sm_op (cs := (fun trough_here => [(p_trough_here, cLst rInt trough_here)])) (s := trough_here) vo_eqI (sm_Mcall1 (cs := (fun trough_here => [(p_trough_here, cLst rInt trough_here)])) (s := trough_here) (cell := fun z => cLst rInt z) (i0 := 0) (j0 := 0) rfl (fun _ => rfl) (fun _ _ => rfl) (EM.sm (cs := (fun trough_here => [(p_trough_here, cLst rInt trough_here)])) (s := trough_here) em_int)) fun trough_here => (EM.sm (cs := (fun trough_here => [(p_trough_here, cLst rInt trough_here)])) (s := trough_here) em_int))) hv k fun v F H e k r => hQ v F H (k.keepN 1) r
    ·
      subst eb
      have hm := hF hm
      obtain ⟨b, hb, hm⟩ := bind_some hm
      refine q_ife (et_test (em_op vo_eqI (em_varf (i := 2) fl_int rfl r_shape) em_int)) hb k (fun eb F H e k => ?_) (fun eb F H e k => ?_)
      ·
        subst eb
        have hm := hT hm
        have hv := hm
        have hm : True := trivial
        cases hm
        exact a_retS (cs' := (fun trough_here => [(p_trough_here, cLst rInt trough_here)])) (sm_mapR (ra := rInt) (cs := (fun trough_here => [(p_trough_here, cLst rInt trough_here)])) (s := trough_here) (f := PyData.int) dz_int (sm_op (cs := (fun trough_here => [(p_trough_here, cLst rInt trough_here)])) (s := trough_here) vo_add (sm_ix (cs := (fun trough_here => [(p_trough_here, cLst rInt trough_here)])) (s := trough_here) (EM.sm (cs := (fun trough_here => [(p_trough_here, cLst rInt trough_here)])) (s := trough_here) ((ef_lst (ea_cons em_int (ea_cons em_int (ea_cons (em_op vo_sub em_int em_int) (ea_cons (em_powC (n := 40) rfl (by decide) (by decide)) (ea_cons (em_op vo_sub em_int (em_powC (n := 37) rfl (by decide) (by decide))) ea_nil))))))).em) fun trough_here => (sm_Mcall1 (cs := (fun trough_here => [(p_trough_here, cLst rInt trough_here)])) (s := trough_here) (cell := fun z => cLst rInt z) (i0 := 0) (j0 := 0) rfl (fun _ => rfl) (fun _ _ => rfl) (EM.sm (cs := (fun trough_here => [(p_trough_here, cLst rInt trough_here)])) (s := trough_here) em_int))) fun trough_here => (sm_Mcall1 (cs := (fun trough_here => [(p_trough_here, cLst rInt trough_here)])) (s := trough_here) (cell := fun z => cLst rInt z) (i0 := 0) (j0 := 0) rfl (fun _ => rfl) (fun _ _ => rfl) (EM.sm (cs := (fun trough_here => [(p_trough_here, cLst rInt trough_here)])) (s := trough_here) em_int)))) hv k fun v F H e k r => hQ v F H (k.keepN 1) r
      ·
        subst eb
        have hm := hF hm
        obtain ⟨b, hb, hm⟩ := bind_some hm
        refine q_ife (et_test (em_op vo_eqI (em_varf (i := 2) fl_int rfl r_shape) em_int)) hb k (fun eb F H e k => ?_) (fun eb F H e k => ?_)
        ·
          subst eb
          have hm := hT hm
          have hv := hm
          have hm : True := trivial
          cases hm
          exact a_retS (cs' := (fun trough_here => [(p_trough_here, cLst rInt trough_here)])) (sm_mapR (ra := rStr) (cs := (fun trough_here => [(p_trough_here, cLst rInt trough_here)])) (s := trough_here) (f := PyData.str) dz_str (sm_op (cs := (fun trough_here => [(p_trough_here, cLst rInt trough_here)])) (s := trough_here) vo_mulS (sm_ix (cs := (fun trough_here => [(p_trough_here, cLst rInt trough_here)])) (s := trough_here) (EM.sm (cs := (fun trough_here => [(p_trough_here, cLst rInt trough_here)])) (s := trough_here) ((ef_lst (ea_cons em_str (ea_cons em_str (ea_cons em_str (ea_cons em_str (ea_cons em_str (ea_cons em_str ea_nil)))))))).em) fun trough_here => (sm_Mcall1 (cs := (fun trough_here => [(p_trough_here, cLst rInt trough_here)])) (s := trough_here) (cell := fun z => cLst rInt z) (i0 := 0) (j0 := 0) rfl (fun _ => rfl) (fun _ _ => rfl) (EM.sm (cs := (fun trough_here => [(p_trough_here, cLst rInt trough_here)])) (s := trough_here) em_int))) fun trough_here => (sm_op (cs := (fun trough_here => [(p_trough_here, cLst rInt trough_here)])) (s := trough_here) vo_add (EM.sm (cs := (fun trough_here => [(p_trough_here, cLst rInt trough_here)])) (s := trough_here) em_int) fun trough_here => (sm_Mcall1 (cs := (fun trough_here => [(p_trough_here, cLst rInt trough_here)])) (s := trough_here) (cell := fun z => cLst rInt z) (i0 := 0) (j0 := 0) rfl (fun _ => rfl) (fun _ _ => rfl) (EM.sm (cs := (fun trough_here => [(p_trough_here, cLst rInt trough_here)])) (s := trough_here) em_int))))) hv k fun v F H e k r => hQ v F H (k.keepN 1) r
        ·
          subst eb
          have hm := hF hm
          obtain ⟨b, hb, hm⟩ := bind_some hm
          refine q_ife (et_test (em_op vo_eqI (em_varf (i := 2) fl_int rfl r_shape) em_int)) hb k (fun eb F H e k => ?_) (fun eb F H e k => ?_)
          ·
            subst eb
            have hm := hT hm
            have hv := hm
            have hm : True := trivial
            cases hm
            exact a_retS (cs' := (fun trough_here => [(p_trough_here, cLst rInt trough_here)])) (sm_ix (cs := (fun trough_here => [(p_trough_here, cLst rInt trough_here)])) (s := trough_here) (EM.sm (cs := (fun trough_here => [(p_trough_here, cLst rInt trough_here)])) (s := trough_here) ((ef_lst (ea_cons (em_eq (m' := (some (PyData.list []))) (em_mapR (ra := (rLst rDz)) (g := PyData.list) dz_lst ((ef_lst (ra := rDz) ea_nil)).em) rfl) (ea_cons em_dz0 ea_nil)))).em) fun trough_here => (sm_Mcall1 (cs := (fun trough_here => [(p_trough_here, cLst rInt trough_here)])) (s := trough_here) (cell := fun z => cLst rInt z) (i0 := 0) (j0 := 0) rfl (fun _ => rfl) (fun _ _ => rfl) (EM.sm (cs := (fun trough_here => [(p_trough_here, cLst rInt trough_here)])) (s := trough_here) em_int))) hv k fun v F H e k r => hQ v F H (k.keepN 1) r
          ·
            subst eb
            have hm := hF hm
            obtain ⟨b, hb, hm⟩ := bind_some hm
            refine q_ife (et_test (em_op vo_eqI (em_varf (i := 2) fl_int rfl r_shape) em_int)) hb k (fun eb F H e k => ?_) (fun eb F H e k => ?_)
            ·
              subst eb
              have hm := hT hm
              obtain ⟨rv, hv, hm⟩ := bind_some hm
              have hm := Option.some.inj hm
              cases hm
              exact a_ret (em_eq (m' := (some (PyData.tuple []))) (em_mapR (ra := (rTup K rDz)) (g := PyData.tuple) (dz_tup (K := K)) (em_eq (m' := (some ([] : List PyData))) (em_tup (ra := rDz) ea_nil) rfl)) rfl) hv k fun v F H e k r => hQ v F H (k.keepN 1) r
            ·
              subst eb
              have hm := hF hm
              obtain ⟨⟨parts_n, trough_here_n⟩, hx, hm⟩ := bind_some hm
              refine q_setS (cs' := (fun trough_here => [(p_trough_here, cLst rInt trough_here)])) (SF.sm (cs := (fun trough_here => [(p_trough_here, cLst rInt trough_here)])) (s := trough_here) (sf_lcS (K := K) (cs := (fun trough_here => [(p_trough_here, cLst rInt trough_here)])) (s := trough_here) (f := fun (turn : Int) => fun trough_here => (s1 (fun a0 s => m_thing_1 s a0) (sP (some (deep + 1)) trough_here))) (S := (fun d F1 σ2 => ∃ v_turn, σ2 = [some (.ref p_trough_here), some v_deep, some v_shape, none, some v_turn] ∧ rInt.r F1 v_turn d)) (si_rng1 (cs := (fun trough_here => [(p_trough_here, cLst rInt trough_here)])) (s := trough_here) (sm_op (cs := (fun trough_here => [(p_trough_here, cLst rInt trough_here)])) (s := trough_here) vo_add (EM.sm (cs := (fun trough_here => [(p_trough_here, cLst rInt trough_here)])) (s := trough_here) em_int) fun trough_here => (sm_Mcall1 (cs := (fun trough_here => [(p_trough_here, cLst rInt trough_here)])) (s := trough_here) (cell := fun z => cLst rInt z) (i0 := 0) (j0 := 0) rfl (fun _ => rfl) (fun _ _ => rfl) (EM.sm (cs := (fun trough_here => [(p_trough_here, cLst rInt trough_here)])) (s := trough_here) em_int)))) (gt_name (fun _ => rfl)) (fun d F1 σ2 hs => by obtain ⟨_, rfl, _⟩ := hs; rfl) (by intro turn F1 σ2 trough_here e1 hs; obtain ⟨v_turn, rfl, r_turn⟩ := hs; exact (sm_Mcall1 (cs := (fun trough_here => [(p_trough_here, cLst rInt trough_here)])) (s := trough_here) (cell := fun z => cLst rInt z) (i0 := 0) (j0 := 0) rfl (fun _ => rfl) (fun _ _ => rfl) (EM.sm (cs := (fun trough_here => [(p_trough_here, cLst rInt trough_here)])) (s := trough_here) (em_op vo_add (em_varf (i := 1) fl_int rfl r_deep) em_int)))) (fun _ _ => rfl))) hx k fun v_parts F H e k r_parts => ?_
              obtain ⟨parts, ez_⟩ : ∃ z, z = parts_n := ⟨_, rfl⟩; subst ez_
              obtain ⟨trough_here, ez_⟩ : ∃ z, z = trough_here_n := ⟨_, rfl⟩; subst ez_
              have k : Cov c F [(p_trough_here, cLst rInt trough_here)] H := k
              show (_ : TS) _ [some (.ref p_trough_here), some v_deep, some v_shape, some v_parts, none] _
              obtain ⟨b, hb, hm⟩ := bind_some hm
              refine q_ife (et_test (em_op vo_eqI (em_varf (i := 2) fl_int rfl r_shape) em_int)) hb k (fun eb F H e k => ?_) (fun eb F H e k => ?_)
              ·
                subst eb
                have hm := hT hm
                have r_parts := (rLst rDz).up e r_parts
                obtain ⟨rv, hv, hm⟩ := bind_some hm
                have hm := Option.some.inj hm
                cases hm
                exact a_ret (em_eq (m' := (some (PyData.list parts))) (em_mapR (ra := (rLst rDz)) (g := PyData.list) dz_lst (em_var (i := 3) rfl r_parts)) rfl) hv k fun v F H e k r => hQ v F H (k.keepN 1) r
              ·
                subst eb
                have hm := hF hm
                have r_parts := (rLst rDz).up e r_parts
                obtain ⟨b, hb, hm⟩ := bind_some hm
                refine q_ife (et_test (em_op vo_eqI (em_varf (i := 2) fl_int rfl r_shape) em_int)) hb k (fun eb F H e k => ?_) (fun eb F H e k => ?_)
                ·
                  subst eb
                  have hm := hT hm
                  have r_parts := (rLst rDz).up e r_parts
                  obtain ⟨rv, hv, hm⟩ := bind_some hm
                  have hm := Option.some.inj hm
                  cases hm
                  exact a_ret (em_eq (m' := (some (PyData.tuple parts))) (em_mapR (ra := (rTup K rDz)) (g := PyData.tuple) (dz_tup (K := K)) (el_tuple ((em_var (i := 3) rfl r_parts)).el)) rfl) hv k fun v F H e k r => hQ v F H (k.keepN 1) r
                ·
                  subst eb
                  have hm := hF hm
                  have r_parts := (rLst rDz).up e r_parts
                  have hv := hm
                  have hm : True := trivial
                  cases hm
                  exact a_retS (cs' := (fun trough_here => [(p_trough_here, cLst rInt trough_here)])) (sm_disp2 (cs := (fun trough_here => [(p_trough_here, cLst rInt trough_here)])) (s := trough_here) (k1 := "seen") (k2 := "hidden") (by decide) (fun p_dd_ => (em_eq (m' := (some (PyData.list parts))) (em_mapR (ra := (rLst rDz)) (g := PyData.list) dz_lst (em_var (i := 3) rfl r_parts)) rfl)) (fun p_dd_ => (sm_mapR (ra := rInt) (cs := (fun trough_here => [(p_dd_, cE), (p_trough_here, cLst rInt trough_here)])) (s := trough_here) (f := PyData.int) dz_int (sm_Mcall1 (cs := (fun trough_here => [(p_dd_, cE), (p_trough_here, cLst rInt trough_here)])) (s := trough_here) (cell := fun z => cLst rInt z) (i0 := 0) (j0 := 1) rfl (fun _ => rfl) (fun _ _ => rfl) (EM.sm (cs := (fun trough_here => [(p_dd_, cE), (p_trough_here, cLst rInt trough_here)])) (s := trough_here) em_int))))) hv k fun v F H e k r => hQ v F H (k.keepN 1) r
abbrev s_thing : Stmt := topS 18
abbrev N_thing : List PySem.Str := ["_law_trough_here", "_law_deep", "_law_shape", "_law_parts", "_law_turn"]
theorem sc_thing : FnScope N_thing ["_law_trough_here", "_law_deep"] (defScope s_thing) := ⟨rfl, rfl, rfl, by decide +kernel, rfl, by decide +kernel, by decide +kernel⟩
def sp_thing (K : PySem.W.Frag) : Sp := (MPsp1 (fun z => cLst rInt z) rInt rDz m_thing)
theorem ok_thing {P : Program} {w : World} {K : PySem.W.Frag} {mg : PySem.Str → Option Value} {base : Heap} (T : Txt mg) (L : ClsF K mg) (E_ : ErrF K mg erL) (S_ : SysF K) (C_ladle : Cal P w K mg base 1 "_law_ladle" ["_law_trough_here", "_law_many"] (sp_ladle K) (fun _ => True)) (C_thing_2 : Cal P w K mg base 4 "_law_thing" ["_law_trough_here", "_law_deep"] (sp_thing_2 K) (fun _ => True)) {f : Addr} {fd : FuncData} (Fn : FnP K "_law_thing" s_thing f fd) : FnOk P w K mg base CX0 5 f fd ["_law_trough_here", "_law_deep"] (sp_thing K) := by
  obtain ⟨f_ladle, fd_ladle, G_ladle, g_ladle, kp_ladle, b_ladle, _⟩ := C_ladle.ex
  obtain ⟨f_thing_2, fd_thing_2, G_thing_2, g_thing_2, kp_thing_2, b_thing_2, _⟩ := C_thing_2.ex
  refine Fn.ok sc_thing (fun vs H Q E h => MPsp1_len h) (fun cdv A outer s H vs Q E hr h => ?_)
  obtain ⟨F, p_trough_here, v_deep, trough_here, deep, res, s_out, rfl, k, r_deep, hm, hQ⟩ := h
  generalize hc : Act.mk H F [p_trough_here] = c at k hQ
  unfold m_thing at hm
  refine ⟨_, PSs.nox (pss_cons (ps_set (i := 2) sc_thing.nd rfl (Or.inl rfl) (pe_call G_ladle (hr.mono (by decide)) (by rfl) g_ladle kp_ladle b_ladle .nil pass0 (pa_cons (pv 0) (pa_cons (pe_ifExp (pt_cmpR op_lt (pv 1) pe_int (nomark _)) pe_int pe_int) pa_nil)))) (pss_cons (ps_if (pt_cmpR op_eq (pv 2) pe_int (nomark _)) (pss_one (ps_ret pe_non)) pss_nil) (pss_cons (ps_if (pt_cmpR op_eq (pv 2) pe_int (nomark _)) (pss_one (ps_ret (pe_cmpR op_eq (pe_call G_ladle (hr.mono (by decide)) (by rfl) g_ladle kp_ladle b_ladle .nil pass0 (pa_cons (pv 0) (pa_cons pe_int pa_nil))) pe_int (nomark _)))) pss_nil) (pss_cons (ps_if (pt_cmpR op_eq (pv 2) pe_int (nomark _)) (pss_one (ps_ret (pe_op op_add (pe_ix (ix_listK K rfl) (pe_lst (pa_cons pe_int (pa_cons pe_int (pa_cons (pe_op op_sub pe_int pe_int) (pa_cons (pe_op op_pow pe_int pe_int) (pa_cons (pe_op op_sub pe_int (pe_op op_pow pe_int pe_int)) pa_nil)))))) (pe_call G_ladle (hr.mono (by decide)) (by rfl) g_ladle kp_ladle b_ladle .nil pass0 (pa_cons (pv 0) (pa_cons pe_int pa_nil))) (fun _ _ => rfl)) (pe_call G_ladle (hr.mono (by decide)) (by rfl) g_ladle kp_ladle b_ladle .nil pass0 (pa_cons (pv 0) (pa_cons pe_int pa_nil)))))) pss_nil) (pss_cons (ps_if (pt_cmpR op_eq (pv 2) pe_int (nomark _)) (pss_one (ps_ret (pe_op op_mul_str (pe_ix (ix_listK K rfl) (pe_lst (pa_cons pe_str (pa_cons pe_str (pa_cons pe_str (pa_cons pe_str (pa_cons pe_str (pa_cons pe_str pa_nil))))))) (pe_call G_ladle (hr.mono (by decide)) (by rfl) g_ladle kp_ladle b_ladle .nil pass0 (pa_cons (pv 0) (pa_cons pe_int pa_nil))) (fun _ _ => rfl)) (pe_op op_add pe_int (pe_call G_ladle (hr.mono (by decide)) (by rfl) g_ladle kp_ladle b_ladle .nil pass0 (pa_cons (pv 0) (pa_cons pe_int pa_nil))))))) pss_nil) (pss_cons (ps_if (pt_cmpR op_eq (pv 2) pe_int (nomark _)) (pss_one (ps_ret (pe_ix (ix_listK K rfl) (pe_lst (pa_cons (pe_lst pa_nil) (pa_cons pe_dnewK pa_nil))) (pe_call G_ladle (hr.mono (by decide)) (by rfl) g_ladle kp_ladle b_ladle .nil pass0 (pa_cons (pv 0) (pa_cons pe_int pa_nil))) (fun _ _ => rfl)))) pss_nil) (pss_cons (ps_if (pt_cmpR op_eq (pv 2) pe_int (nomark _)) (pss_one (ps_ret (pe_tup pa_nil))) pss_nil) (pss_cons (ps_setLc (i := 3) (own := [("_law_turn", 4)]) (g := (gName 4)) (tt := tYes) rfl sc_thing.nd rfl rfl (sw_true rfl rfl rfl (by decide +kernel)) (pi_range1 (by rfl) T.b_range (pa_cons (pe_op op_add pe_int (pe_call G_ladle (hr.mono (by decide)) (by rfl) g_ladle kp_ladle b_ladle .nil pass0 (pa_cons (pv 0) (pa_cons pe_int pa_nil)))) pa_nil)) (blkOk_by (N := N_thing) (sc := defScope s_thing) (by decide +kernel)) (fun _ _ _ _ _ => (pg_name (i := 4) sc_thing.nd rfl (Or.inl rfl))) (fun _ _ _ _ _ => pts_nil) (fun _ _ _ _ _ => (pe_call G_thing_2 (hr.mono (by decide)) (by rfl) g_thing_2 kp_thing_2 b_thing_2 .nil pass0 (pa_cons (pv 0) (pa_cons (pe_op op_add (pv 1) pe_int) pa_nil))))) (pss_cons (ps_if (pt_cmpR op_eq (pv 2) pe_int (nomark _)) (pss_one (ps_ret (pv 3))) pss_nil) (pss_cons (ps_if (pt_cmpR op_eq (pv 2) pe_int (nomark _)) (pss_one (ps_ret (pe_callTy (call_tuple_ofK K rfl) (by rfl) T.b_tuple (by decide +kernel) (pa_cons (pv 3) pa_nil)))) pss_nil) (pss_one (ps_ret (pe_disp (pps_cons pe_str (pv 3) (pps_cons pe_str (pe_call G_ladle (hr.mono (by decide)) (by rfl) g_ladle kp_ladle b_ladle .nil pass0 (pa_cons (pv 0) (pa_cons pe_int pa_nil))) pps_nil)) rfl rfl (by simp) (by decide)))))))))))))), ?_⟩
  show (_ : TS) _ [some (.ref p_trough_here), some v_deep, none, none, none] _
  obtain ⟨⟨shape_n, trough_here_n⟩, hx, hm⟩ := bind_some hm
  refine q_setS (cs' := (fun trough_here => [(p_trough_here, cLst rInt trough_here)])) (sm_Mcall1 (cs := (fun trough_here => [(p_trough_here, cLst rInt trough_here)])) (s := trough_here) (cell := fun z => cLst rInt z) (i0 := 0) (j0 := 0) rfl (fun _ => rfl) (fun _ _ => rfl) (EM.sm (cs := (fun trough_here => [(p_trough_here, cLst rInt trough_here)])) (s := trough_here) (em_if (et_test (em_op vo_lt (em_varf (i := 1) fl_int rfl r_deep) em_int)) em_int em_int))) hx k fun v_shape F H e k r_shape => ?_
  obtain ⟨shape, ez_⟩ : ∃ z, z = shape_n := ⟨_, rfl⟩; subst ez_
  obtain ⟨trough_here, ez_⟩ : ∃ z, z = trough_here_n := ⟨_, rfl⟩; subst ez_
  have k : Cov c F [(p_trough_here, cLst rInt trough_here)] H := k
  show (_ : TS) _ [some (.ref p_trough_here), some v_deep, some v_shape, none, none] _
  obtain ⟨b, hb, hm⟩ := bind_some hm
  refine q_ife (et_test (em_op vo_eqI (em_varf (i := 2) fl_int rfl r_shape) em_int)) hb k (fun eb F H e k => ?_) (fun eb F H e k => ?_)
  ·
    subst eb
    have hm := hT hm
    obtain ⟨rv, hv, hm⟩ := bind_some hm
    have hm := Option.some.inj hm
    cases hm
    exact a_ret em_dzN hv k fun v F H e k r => hQ v F H (k.keepN 1) r
  ·
    subst eb
    have hm := hF hm
    obtain ⟨b, hb, hm⟩ := bind_some hm
    refine q_ife (et_test (em_op vo_eqI (em_varf (i := 2) fl_int rfl r_shape) em_int)) hb k (fun eb F H e k => ?_) (fun eb F H e k => ?_)
    ·
      subst eb
      have hm := hT hm
      have hv := hm
      have hm : True := trivial
      cases hm
      exact a_retS (cs' := (fun trough_here => [(p_trough_here, cLst rInt trough_here)])) (sm_mapR (ra := rBool) (cs := (fun trough_here => [(p_trough_here, cLst rInt trough_here)])) (s := trough_here) (f := PyData.bool) dz_bool (sm_op (cs := (fun trough_here => [(p_trough_here, cLst rInt trough_here)])) (s := trough_here) vo_eqI (sm_Mcall1 (cs := (fun trough_here => [(p_trough_here, cLst rInt trough_here)])) (s := trough_here) (cell := fun z => cLst rInt z) (i0 := 0) (j0 := 0) rfl (fun _ => rfl) (fun _ _ => rfl) (EM.sm (cs := (fun trough_here => [(p_trough_here, cLst rInt trough_here)])) (s := trough_here) em_int)) fun trough_here => (EM.sm (cs := (fun trough_here => [(p_trough_here, cLst rInt trough_here)])) (s := trough_here) em_int))) hv k fun v F H e k r => hQ v F H (k.keepN 1) r
    ·
      subst eb
      have hm := hF hm
      obtain ⟨b, hb, hm⟩ := bind_some hm
      refine q_ife (et_test (em_op vo_eqI (em_varf (i := 2) fl_int rfl r_shape) em_int)) hb k (fun eb F H e k => ?_) (fun eb F H e k => ?_)
      ·
        subst eb
        have hm := hT hm
        have hv := hm
        have hm : True := trivial
        cases hm
        exact a_retS (cs' := (fun trough_here => [(p_trough_here, cLst rInt trough_here)])) (sm_mapR (ra := rInt) (cs := (fun trough_here => [(p_trough_here, cLst rInt trough_here)])) (s := trough_here) (f := PyData.int) dz_int (sm_op (cs := (fun trough_here => [(p_trough_here, cLst rInt trough_here)])) (s := trough_here) vo_add (sm_ix (cs := (fun trough_here => [(p_trough_here, cLst rInt trough_here)])) (s := trough_here) (EM.sm (cs := (fun trough_here => [(p_trough_here, cLst rInt trough_here)])) (s := trough_here) ((ef_lst (ea_cons em_int (ea_cons em_int (ea_cons (em_op vo_sub em_int em_int) (ea_cons (em_powC (n := 40) rfl (by decide) (by decide)) (ea_cons (em_op vo_sub em_int (em_powC (n := 37) rfl (by decide) (by decide))) ea_nil))))))).em) fun trough_here => (sm_Mcall1 (cs := (fun trough_here => [(p_trough_here, cLst rInt trough_here)])) (s := trough_here) (cell := fun z => cLst rInt z) (i0 := 0) (j0 := 0) rfl (fun _ => rfl) (fun _ _ => rfl) (EM.sm (cs := (fun trough_here => [(p_trough_here, cLst rInt trough_here)])) (s := trough_here) em_int))) fun trough_here => (sm_Mcall1 (cs := (fun trough_here => [(p_trough_here, cLst rInt trough_here)])) (s := trough_here) (cell := fun z => cLst rInt z) (i0 := 0) (j0 := 0) rfl (fun _ => rfl) (fun _ _ => rfl) (EM.sm (cs := (fun trough_here => [(p_trough_here, cLst rInt trough_here)])) (s := trough_here) em_int)))) hv k fun v F H e k r => hQ v F H (k.keepN 1) r
      ·
        subst eb
        have hm := hF hm
        obtain ⟨b, hb, hm⟩ := bind_some hm
        refine q_ife (et_test (em_op vo_eqI (em_varf (i := 2) fl_int rfl r_shape) em_int)) hb k (fun eb F H e k => ?_) (fun eb F H e k => ?_)
        ·
          subst eb
          have hm := hT hm
          have hv := hm
          have hm : True := trivial
          cases hm
          exact a_retS (cs' := (fun trough_here => [(p_trough_here, cLst rInt trough_here)])) (sm_mapR (ra := rStr) (cs := (fun trough_here => [(p_trough_here, cLst rInt trough_here)])) (s := trough_here) (f := PyData.str) dz_str (sm_op (cs := (fun trough_here => [(p_trough_here, cLst rInt trough_here)])) (s := trough_here) vo_mulS (sm_ix (cs := (fun trough_here => [(p_trough_here, cLst rInt trough_here)])) (s := trough_here) (EM.sm (cs := (fun trough_here => [(p_trough_here, cLst rInt trough_here)])) (s := trough_here) ((ef_lst (ea_cons em_str (ea_cons em_str (ea_cons em_str (ea_cons em_str (ea_cons em_str (ea_cons em_str ea_nil)))))))).em) fun trough_here => (sm_Mcall1 (cs := (fun trough_here => [(p_trough_here, cLst rInt trough_here)])) (s := trough_here) (cell := fun z => cLst rInt z) (i0 := 0) (j0 := 0) rfl (fun _ => rfl) (fun _ _ => rfl) (EM.sm (cs := (fun trough_here => [(p_trough_here, cLst rInt trough_here)])) (s := trough_here) em_int))) fun trough_here => (sm_op (cs := (fun trough_here => [(p_trough_here, cLst rInt trough_here)])) (s := trough_here) vo_add (EM.sm (cs := (fun trough_here => [(p_trough_here, cLst rInt trough_here)])) (s := trough_here) em_int) fun trough_here => (sm_Mcall1 (cs := (fun trough_here => [(p_trough_here, cLst rInt trough_here)])) (s := trough_here) (cell := fun z => cLst rInt z) (i0 := 0) (j0 := 0) rfl (fun _ => rfl) (fun _ _ => rfl) (EM.sm (cs := (fun trough_here => [(p_trough_here, cLst rInt trough_here)])) (s := trough_here) em_int))))) hv k fun v F H e k r => hQ v F H (k.keepN 1) r
        ·
          subst eb
          have hm := hF hm
          obtain ⟨b, hb, hm⟩ := bind_some hm
          refine q_ife (et_test (em_op vo_eqI (em_varf (i := 2) fl_int rfl r_shape) em_int)) hb k (fun eb F H e k => ?_) (fun eb F H e k => ?_)
          ·
            subst eb
            have hm := hT hm
            have hv := hm
            have hm : True := trivial
            cases hm
            exact a_retS (cs' := (fun trough_here => [(p_trough_here, cLst rInt trough_here)])) (sm_ix (cs := (fun trough_here => [(p_trough_here, cLst rInt trough_here)])) (s := trough_here) (EM.sm (cs := (fun trough_here => [(p_trough_here, cLst rInt trough_here)])) (s := trough_here) ((ef_lst (ea_cons (em_eq (m' := (some (PyData.list []))) (em_mapR (ra := (rLst rDz)) (g := PyData.list) dz_lst ((ef_lst (ra := rDz) ea_nil)).em) rfl) (ea_cons em_dz0 ea_nil)))).em) fun trough_here => (sm_Mcall1 (cs := (fun trough_here => [(p_trough_here, cLst rInt trough_here)])) (s := trough_here) (cell := fun z => cLst rInt z) (i0 := 0) (j0 := 0) rfl (fun _ => rfl) (fun _ _ => rfl) (EM.sm (cs := (fun trough_here => [(p_trough_here, cLst rInt trough_here)])) (s := trough_here) em_int))) hv k fun v F H e k r => hQ v F H (k.keepN 1) r
          ·
            subst eb
            have hm := hF hm
            obtain ⟨b, hb, hm⟩ := bind_some hm
            refine q_ife (et_test (em_op vo_eqI (em_varf (i := 2) fl_int rfl r_shape) em_int)) hb k (fun eb F H e k => ?_) (fun eb F H e k => ?_)
            ·
              subst eb
              have hm := hT hm
              obtain ⟨rv, hv, hm⟩ := bind_some hm
              have hm := Option.some.inj hm
              cases hm
              exact a_ret (em_eq (m' := (some (PyData.tuple []))) (em_mapR (ra := (rTup K rDz)) (g := PyData.tuple) (dz_tup (K := K)) (em_eq (m' := (some ([] : List PyData))) (em_tup (ra := rDz) ea_nil) rfl)) rfl) hv k fun v F H e k r => hQ v F H (k.keepN 1) r
            ·
              subst eb
              have hm := hF hm
              obtain ⟨⟨parts_n, trough_here_n⟩, hx, hm⟩ := bind_some hm
              refine q_setS (cs' := (fun trough_here => [(p_trough_here, cLst rInt trough_here)])) (SF.sm (cs := (fun trough_here => [(p_trough_here, cLst rInt trough_here)])) (s := trough_here) (sf_lcS (K := K) (cs := (fun trough_here => [(p_trough_here, cLst rInt trough_here)])) (s := trough_here) (f := fun (turn : Int) => fun trough_here => (s1 (fun a0 s => m_thing_2 s a0) (sP (some (deep + 1)) trough_here))) (S := (fun d F1 σ2 => ∃ v_turn, σ2 = [some (.ref p_trough_here), some v_deep, some v_shape, none, some v_turn] ∧ rInt.r F1 v_turn d)) (si_rng1 (cs := (fun trough_here => [(p_trough_here, cLst rInt trough_here)])) (s := trough_here) (sm_op (cs := (fun trough_here => [(p_trough_here, cLst rInt trough_here)])) (s := trough_here) vo_add (EM.sm (cs := (fun trough_here => [(p_trough_here, cLst rInt trough_here)])) (s := trough_here) em_int) fun trough_here => (sm_Mcall1 (cs := (fun trough_here => [(p_trough_here, cLst rInt trough_here)])) (s := trough_here) (cell := fun z => cLst rInt z) (i0 := 0) (j0 := 0) rfl (fun _ => rfl) (fun _ _ => rfl) (EM.sm (cs := (fun trough_here => [(p_trough_here, cLst rInt trough_here)])) (s := trough_here) em_int)))) (gt_name (fun _ => rfl)) (fun d F1 σ2 hs => by obtain ⟨_, rfl, _⟩ := hs; rfl) (by intro turn F1 σ2 trough_here e1 hs; obtain ⟨v_turn, rfl, r_turn⟩ := hs; exact (sm_Mcall1 (cs := (fun trough_here => [(p_trough_here, cLst rInt trough_here)])) (s := trough_here) (cell := fun z => cLst rInt z) (i0 := 0) (j0 := 0) rfl (fun _ => rfl) (fun _ _ => rfl) (EM.sm (cs := (fun trough_here => [(p_trough_here, cLst rInt trough_here)])) (s := trough_here) (em_op vo_add (em_varf (i := 1) fl_int rfl r_deep) em_int)))) (fun _ _ => rfl))) hx k fun v_parts F H e k r_parts => ?_
              obtain ⟨parts, ez_⟩ : ∃ z, z = parts_n := ⟨_, rfl⟩; subst ez_
              obtain ⟨trough_here, ez_⟩ : ∃ z, z = trough_here_n := ⟨_, rfl⟩; subst ez_
              have k : Cov c F [(p_trough_here, cLst rInt trough_here)] H := k
              show (_ : TS) _ [some (.ref p_trough_here), some v_deep, some v_shape, some v_parts, none] _
              obtain ⟨b, hb, hm⟩ := bind_some hm
              refine q_ife (et_test (em_op vo_eqI (em_varf (i := 2) fl_int rfl r_shape) em_int)) hb k (fun eb F H e k => ?_) (fun eb F H e k => ?_)
              ·
                subst eb
                have hm := hT hm
                have r_parts := (rLst rDz).up e r_parts
                obtain ⟨rv, hv, hm⟩ := bind_some hm
                have hm := Option.some.inj hm
                cases hm
                exact a_ret (em_eq (m' := (some (PyData.list parts))) (em_mapR (ra := (rLst rDz)) (g := PyData.list) dz_lst (em_var (i := 3) rfl r_parts)) rfl) hv k fun v F H e k r => hQ v F H (k.keepN 1) r
              ·
                subst eb
                have hm := hF hm
                have r_parts := (rLst rDz).up e r_parts
                obtain ⟨b, hb, hm⟩ := bind_some hm
                refine q_ife (et_test (em_op vo_eqI (em_varf (i := 2) fl_int rfl r_shape) em_int)) hb k (fun eb F H e k => ?_) (fun eb F H e k => ?_)
                ·
                  subst eb
                  have hm := hT hm
                  have r_parts := (rLst rDz).up e r_parts
                  obtain ⟨rv, hv, hm⟩ := bind_some hm
                  have hm := Option.some.inj hm
                  cases hm
                  exact a_ret (em_eq (m' := (some (PyData.tuple parts))) (em_mapR (ra := (rTup K rDz)) (g := PyData.tuple) (dz_tup (K := K)) (el_tuple ((em_var (i := 3) rfl r_parts)).el)) rfl) hv k fun v F H e k r => hQ v F H (k.keepN 1) r
                ·
                  subst eb
                  have hm := hF hm
                  have r_parts := (rLst rDz).up e r_parts
                  have hv := hm
                  have hm : True := trivial
                  cases hm
                  exact a_retS (cs' := (fun trough_here => [(p_trough_here, cLst rInt trough_here)])) (sm_disp2 (cs := (fun trough_here => [(p_trough_here, cLst rInt trough_here)])) (s := trough_here) (k1 := "seen") (k2 := "hidden") (by decide) (fun p_dd_ => (em_eq (m' := (some (PyData.list parts))) (em_mapR (ra := (rLst rDz)) (g := PyData.list) dz_lst (em_var (i := 3) rfl r_parts)) rfl)) (fun p_dd_ => (sm_mapR (ra := rInt) (cs := (fun trough_here => [(p_dd_, cE), (p_trough_here, cLst rInt trough_here)])) (s := trough_here) (f := PyData.int) dz_int (sm_Mcall1 (cs := (fun trough_here => [(p_dd_, cE), (p_trough_here, cLst rInt trough_here)])) (s := trough_here) (cell := fun z => cLst rInt z) (i0 := 0) (j0 := 1) rfl (fun _ => rfl) (fun _ _ => rfl) (EM.sm (cs := (fun trough_here => [(p_dd_, cE), (p_trough_here, cLst rInt trough_here)])) (s := trough_here) em_int))))) hv k fun v F H e k r => hQ v F H (k.keepN 1) r
abbrev s_marks : Stmt := topS 19
abbrev N_marks : List PySem.Str := ["_law_e", "_law_places", "_law_numbers", "_law_words", "_law_ends"]
theorem sc_marks : FnScope N_marks ["_law_e"] (defScope s_marks) := ⟨rfl, rfl, rfl, by decide +kernel, rfl, by decide +kernel, by decide +kernel⟩
def sp_marks (K : PySem.W.Frag) : Sp := (Psp1 (rExG K erL rDz) (rLst rBool) m_marks)
theorem ok_marks {P : Program} {w : World} {K : PySem.W.Frag} {mg : PySem.Str → Option Value} {base : Heap} (T : Txt mg) (L : ClsF K mg) (E_ : ErrF K mg erL) (S_ : SysF K) {f : Addr} {fd : FuncData} (Fn : FnP K "_law_marks" s_marks f fd) : FnOk P w K mg base CX0 1 f fd ["_law_e"] (sp_marks K) := by
  refine Fn.ok sc_marks (fun vs H Q E h => Psp1_len h) (fun cdv A outer s H vs Q E hr h => ?_)
  obtain ⟨F, v_e_, e_, res, rfl, ex, r_e_, hm, hQ⟩ := h
  have k := Cov.init ex
  generalize hc : Act.mk H F [] = c at k hQ
  unfold m_marks at hm
  refine ⟨_, PSs.nox (pss_cons (ps_set (i := 1) sc_marks.nd rfl (Or.inl rfl) (pe_lst (pa_cons (pe_callB (call_isX K rfl) (by rfl) T.b_isinstance (by decide +kernel) (pa_cons (pv 0) (pa_cons (pe_glob (v := .ref (He.ga K "InvalidSize")) (by rfl) (E_.glo _ er_InvalidSize) rfl) pa_nil))) (pa_cons (pe_callB (call_isX K rfl) (by rfl) T.b_isinstance (by decide +kernel) (pa_cons (pv 0) (pa_cons (pe_glob (v := .ref (He.ga K "InvalidPlace")) (by rfl) (E_.glo _ er_InvalidPlace) rfl) pa_nil))) (pa_cons (pe_callB (call_isX K rfl) (by rfl) T.b_isinstance (by decide +kernel) (pa_cons (pv 0) (pa_cons (pe_glob (v := .ref (He.ga K "DoublePlace")) (by rfl) (E_.glo _ er_DoublePlace) rfl) pa_nil))) pa_nil))))) (pss_cons (ps_set (i := 2) sc_marks.nd rfl (Or.inl rfl) (pe_lst (pa_cons (pe_callB (call_isX K rfl) (by rfl) T.b_isinstance (by decide +kernel) (pa_cons (pv 0) (pa_cons (pe_glob (v := .ref (He.ga K "InvalidMatrix")) (by rfl) (E_.glo _ er_InvalidMatrix) rfl) pa_nil))) (pa_cons (pe_callB (call_isX K rfl) (by rfl) T.b_isinstance (by decide +kernel) (pa_cons (pv 0) (pa_cons (pe_glob (v := .ref (He.ga K "InvalidStep")) (by rfl) (E_.glo _ er_InvalidStep) rfl) pa_nil))) (pa_cons (pe_callB (call_isX K rfl) (by rfl) T.b_isinstance (by decide +kernel) (pa_cons (pv 0) (pa_cons (pe_glob (v := .ref (He.ga K "InvalidNumber")) (by rfl) (E_.glo _ er_InvalidNumber) rfl) pa_nil))) pa_nil))))) (pss_cons (ps_set (i := 3) sc_marks.nd rfl (Or.inl rfl) (pe_lst (pa_cons (pe_callB (call_isX K rfl) (by rfl) T.b_isinstance (by decide +kernel) (pa_cons (pv 0) (pa_cons (pe_glob (v := .ref (He.ga K "InvalidWord")) (by rfl) (E_.glo _ er_InvalidWord) rfl) pa_nil))) (pa_cons (pe_callB (call_isX K rfl) (by rfl) T.b_isinstance (by decide +kernel) (pa_cons (pv 0) (pa_cons (pe_glob (v := .ref (He.ga K "Conflict")) (by rfl) (E_.glo _ er_Conflict) rfl) pa_nil))) (pa_cons (pe_callB (call_isX K rfl) (by rfl) T.b_isinstance (by decide +kernel) (pa_cons (pv 0) (pa_cons (pe_glob (v := .ref (He.ga K "Barred")) (by rfl) (E_.glo _ er_Barred) rfl) pa_nil))) (pa_cons (pe_callB (call_isX K rfl) (by rfl) T.b_isinstance (by decide +kernel) (pa_cons (pv 0) (pa_cons (pe_glob (v := .ref (He.ga K "Taken")) (by rfl) (E_.glo _ er_Taken) rfl) pa_nil))) pa_nil)))))) (pss_cons (ps_set (i := 4) sc_marks.nd rfl (Or.inl rfl) (pe_lst (pa_cons (pe_callB (call_isX K rfl) (by rfl) T.b_isinstance (by decide +kernel) (pa_cons (pv 0) (pa_cons (pe_glob (v := .ref (He.ga K "Wrong")) (by rfl) (E_.glo _ er_Wrong) rfl) pa_nil))) (pa_cons (pe_callB (call_isX K rfl) (by rfl) T.b_isinstance (by decide +kernel) (pa_cons (pv 0) (pa_cons (pe_glob (v := .ref (He.ga K "NothingToUndo")) (by rfl) (E_.glo _ er_NothingToUndo) rfl) pa_nil))) (pa_cons (pe_callB (call_isX K rfl) (by rfl) T.b_isinstance (by decide +kernel) (pa_cons (pv 0) (pa_cons (pe_glob (v := .ref (He.ga K "Unreadable")) (by rfl) (E_.glo _ er_Unreadable) rfl) pa_nil))) pa_nil))))) (pss_one (ps_ret (pe_op op_cat (pe_op op_cat (pe_op op_cat (pv 1) (pv 2)) (pv 3)) (pv 4)))))))), ?_⟩
  show (_ : TS) _ [some v_e_, none, none, none, none] _
  obtain ⟨places_n, hx, hm⟩ := bind_some hm
  refine q_set ((ef_lst (ea_cons (em_isXG E_ er_InvalidSize (em_var (i := 0) rfl r_e_)) (ea_cons (em_isXG E_ er_InvalidPlace (em_var (i := 0) rfl r_e_)) (ea_cons (em_isXG E_ er_DoublePlace (em_var (i := 0) rfl r_e_)) ea_nil))))).em hx k fun v_places F H e k r_places => ?_
  obtain ⟨places, ez_⟩ : ∃ z, z = places_n := ⟨_, rfl⟩; subst ez_
  show (_ : TS) _ [some v_e_, some v_places, none, none, none] _
  have r_e_ := (rExG K erL rDz).up e r_e_
  obtain ⟨numbers_n, hx, hm⟩ := bind_some hm
  refine q_set ((ef_lst (ea_cons (em_isXG E_ er_InvalidMatrix (em_var (i := 0) rfl r_e_)) (ea_cons (em_isXG E_ er_InvalidStep (em_var (i := 0) rfl r_e_)) (ea_cons (em_isXG E_ er_InvalidNumber (em_var (i := 0) rfl r_e_)) ea_nil))))).em hx k fun v_numbers F H e k r_numbers => ?_
  obtain ⟨numbers, ez_⟩ : ∃ z, z = numbers_n := ⟨_, rfl⟩; subst ez_
  show (_ : TS) _ [some v_e_, some v_places, some v_numbers, none, none] _
  have r_e_ := (rExG K erL rDz).up e r_e_
  have r_places := (rLst rBool).up e r_places
  obtain ⟨words_n, hx, hm⟩ := bind_some hm
  refine q_set ((ef_lst (ea_cons (em_isXG E_ er_InvalidWord (em_var (i := 0) rfl r_e_)) (ea_cons (em_isXG E_ er_Conflict (em_var (i := 0) rfl r_e_)) (ea_cons (em_isXG E_ er_Barred (em_var (i := 0) rfl r_e_)) (ea_cons (em_isXG E_ er_Taken (em_var (i := 0) rfl r_e_)) ea_nil)))))).em hx k fun v_words F H e k r_words => ?_
  obtain ⟨words, ez_⟩ : ∃ z, z = words_n := ⟨_, rfl⟩; subst ez_
  show (_ : TS) _ [some v_e_, some v_places, some v_numbers, some v_words, none] _
  have r_e_ := (rExG K erL rDz).up e r_e_
  have r_places := (rLst rBool).up e r_places
  have r_numbers := (rLst rBool).up e r_numbers
  obtain ⟨ends_n, hx, hm⟩ := bind_some hm
  refine q_set ((ef_lst (ea_cons (em_isXG E_ er_Wrong (em_var (i := 0) rfl r_e_)) (ea_cons (em_isXG E_ er_NothingToUndo (em_var (i := 0) rfl r_e_)) (ea_cons (em_isXG E_ er_Unreadable (em_var (i := 0) rfl r_e_)) ea_nil))))).em hx k fun v_ends F H e k r_ends => ?_
  obtain ⟨ends, ez_⟩ : ∃ z, z = ends_n := ⟨_, rfl⟩; subst ez_
  show (_ : TS) _ [some v_e_, some v_places, some v_numbers, some v_words, some v_ends] _
  have r_e_ := (rExG K erL rDz).up e r_e_
  have r_places := (rLst rBool).up e r_places
  have r_numbers := (rLst rBool).up e r_numbers
  have r_words := (rLst rBool).up e r_words
  obtain ⟨rv, hv, hm⟩ := bind_some hm
  have hm := Option.some.inj hm
  cases hm
  exact a_ret ((ef_cat ((ef_cat ((ef_cat ((em_var (i := 1) rfl r_places)).es ((em_var (i := 2) rfl r_numbers)).es)).em.es ((em_var (i := 3) rfl r_words)).es)).em.es ((em_var (i := 4) rfl r_ends)).es)).em hv k fun v F H e k r => hQ v F H k.dropAll r
abbrev s_by_place : Stmt := topS 20
abbrev N_by_place : List PySem.Str := ["_law_one", "_law_places", "_law_words"]
theorem sc_by_place : FnScope N_by_place ["_law_one"] (defScope s_by_place) := ⟨rfl, rfl, rfl, by decide +kernel, rfl, by decide +kernel, by decide +kernel⟩
def sp_by_place (K : PySem.W.Frag) : Sp := (Psp1 rDz (rLst (rExG K erL rDz)) m_by_place)
theorem ok_by_place {P : Program} {w : World} {K : PySem.W.Frag} {mg : PySem.Str → Option Value} {base : Heap} (T : Txt mg) (L : ClsF K mg) (E_ : ErrF K mg erL) (S_ : SysF K) (C_ei : CalEK P w K mg base erL) {f : Addr} {fd : FuncData} (Fn : FnP K "_law_by_place" s_by_place f fd) : FnOk P w K mg base CX0 3 f fd ["_law_one"] (sp_by_place K) := by
  obtain ⟨fd_ei, G_ei, b_ei, kb_ei⟩ := C_ei.ex
  refine Fn.ok sc_by_place (fun vs H Q E h => Psp1_len h) (fun cdv A outer s H vs Q E hr h => ?_)
  obtain ⟨F, v_one, one, res, rfl, ex, r_one, hm, hQ⟩ := h
  have k := Cov.init ex
  generalize hc : Act.mk H F [] = c at k hQ
  unfold m_by_place at hm
  refine ⟨_, PSs.nox (pss_cons (ps_set (i := 1) sc_by_place.nd rfl (Or.inl rfl) (pe_lst (pa_cons (pe_ox (E_.oex _ er_InvalidSize) (E_.ini _ er_InvalidSize) E_.fnI G_ei (hr.mono (by decide)) b_ei rfl pass0 (by rfl) (E_.glo _ er_InvalidSize) (pv 0)) (pa_cons (pe_ox (E_.oex _ er_InvalidPlace) (E_.ini _ er_InvalidPlace) E_.fnI G_ei (hr.mono (by decide)) b_ei rfl pass0 (by rfl) (E_.glo _ er_InvalidPlace) (pv 0)) (pa_cons (pe_ox (E_.oex _ er_DoublePlace) (E_.ini _ er_DoublePlace) E_.fnI G_ei (hr.mono (by decide)) b_ei rfl pass0 (by rfl) (E_.glo _ er_DoublePlace) (pv 0)) (pa_cons (pe_ox (E_.oex _ er_InvalidMatrix) (E_.ini _ er_InvalidMatrix) E_.fnI G_ei (hr.mono (by decide)) b_ei rfl pass0 (by rfl) (E_.glo _ er_InvalidMatrix) (pv 0)) (pa_cons (pe_ox (E_.oex _ er_InvalidStep) (E_.ini _ er_InvalidStep) E_.fnI G_ei (hr.mono (by decide)) b_ei rfl pass0 (by rfl) (E_.glo _ er_InvalidStep) (pv 0)) pa_nil))))))) (pss_cons (ps_set (i := 2) sc_by_place.nd rfl (Or.inl rfl) (pe_lst (pa_cons (pe_ox (E_.oex _ er_InvalidNumber) (E_.ini _ er_InvalidNumber) E_.fnI G_ei (hr.mono (by decide)) b_ei rfl pass0 (by rfl) (E_.glo _ er_InvalidNumber) (pv 0)) (pa_cons (pe_ox (E_.oex _ er_InvalidWord) (E_.ini _ er_InvalidWord) E_.fnI G_ei (hr.mono (by decide)) b_ei rfl pass0 (by rfl) (E_.glo _ er_InvalidWord) (pv 0)) (pa_cons (pe_ox (E_.oex _ er_Conflict) (E_.ini _ er_Conflict) E_.fnI G_ei (hr.mono (by decide)) b_ei rfl pass0 (by rfl) (E_.glo _ er_Conflict) (pv 0)) (pa_cons (pe_ox (E_.oex _ er_Barred) (E_.ini _ er_Barred) E_.fnI G_ei (hr.mono (by decide)) b_ei rfl pass0 (by rfl) (E_.glo _ er_Barred) (pv 0)) (pa_cons (pe_ox (E_.oex _ er_Taken) (E_.ini _ er_Taken) E_.fnI G_ei (hr.mono (by decide)) b_ei rfl pass0 (by rfl) (E_.glo _ er_Taken) (pv 0)) (pa_cons (pe_ox (E_.oex _ er_Wrong) (E_.ini _ er_Wrong) E_.fnI G_ei (hr.mono (by decide)) b_ei rfl pass0 (by rfl) (E_.glo _ er_Wrong) (pv 0)) pa_nil)))))))) (pss_one (ps_ret (pe_op op_cat (pe_op op_cat (pv 1) (pv 2)) (pe_lst (pa_cons (pe_ox (E_.oex _ er_NothingToUndo) (E_.ini _ er_NothingToUndo) E_.fnI G_ei (hr.mono (by decide)) b_ei rfl pass0 (by rfl) (E_.glo _ er_NothingToUndo) (pv 0)) (pa_cons (pe_ox (E_.oex _ er_Unreadable) (E_.ini _ er_Unreadable) E_.fnI G_ei (hr.mono (by decide)) b_ei rfl pass0 (by rfl) (E_.glo _ er_Unreadable) (pv 0)) pa_nil)))))))), ?_⟩
  show (_ : TS) _ [some v_one, none, none] _
  obtain ⟨places_n, hx, hm⟩ := bind_some hm
  refine q_set ((ef_lst (ea_cons (em_oxG E_ er_InvalidSize (em_var (i := 0) rfl r_one)) (ea_cons (em_oxG E_ er_InvalidPlace (em_var (i := 0) rfl r_one)) (ea_cons (em_oxG E_ er_DoublePlace (em_var (i := 0) rfl r_one)) (ea_cons (em_oxG E_ er_InvalidMatrix (em_var (i := 0) rfl r_one)) (ea_cons (em_oxG E_ er_InvalidStep (em_var (i := 0) rfl r_one)) ea_nil))))))).em hx k fun v_places F H e k r_places => ?_
  obtain ⟨places, ez_⟩ : ∃ z, z = places_n := ⟨_, rfl⟩; subst ez_
  show (_ : TS) _ [some v_one, some v_places, none] _
  have r_one := rDz.up e r_one
  obtain ⟨words_n, hx, hm⟩ := bind_some hm
  refine q_set ((ef_lst (ea_cons (em_oxG E_ er_InvalidNumber (em_var (i := 0) rfl r_one)) (ea_cons (em_oxG E_ er_InvalidWord (em_var (i := 0) rfl r_one)) (ea_cons (em_oxG E_ er_Conflict (em_var (i := 0) rfl r_one)) (ea_cons (em_oxG E_ er_Barred (em_var (i := 0) rfl r_one)) (ea_cons (em_oxG E_ er_Taken (em_var (i := 0) rfl r_one)) (ea_cons (em_oxG E_ er_Wrong (em_var (i := 0) rfl r_one)) ea_nil)))))))).em hx k fun v_words F H e k r_words => ?_
  obtain ⟨words, ez_⟩ : ∃ z, z = words_n := ⟨_, rfl⟩; subst ez_
  show (_ : TS) _ [some v_one, some v_places, some v_words] _
  have r_one := rDz.up e r_one
  have r_places := (rLst (rExG K erL rDz)).up e r_places
  obtain ⟨rv, hv, hm⟩ := bind_some hm
  have hm := Option.some.inj hm
  cases hm
  exact a_ret ((ef_cat ((ef_cat ((em_var (i := 1) rfl r_places)).es ((em_var (i := 2) rfl r_words)).es)).em.es ((ef_lst (ea_cons (em_oxG E_ er_NothingToUndo (em_var (i := 0) rfl r_one)) (ea_cons (em_oxG E_ er_Unreadable (em_var (i := 0) rfl r_one)) ea_nil)))).em.es)).em hv k fun v F H e k r => hQ v F H k.dropAll r
abbrev s_by_place_r : Stmt := topS 20
abbrev N_by_place_r : List PySem.Str := ["_law_one", "_law_places", "_law_words"]
theorem sc_by_place_r : FnScope N_by_place_r ["_law_one"] (defScope s_by_place_r) := ⟨rfl, rfl, rfl, by decide +kernel, rfl, by decide +kernel, by decide +kernel⟩
def sp_by_place_r (K : PySem.W.Frag) : Sp := (Psp1 rRaw (rLst (rExG K erL rRaw)) m_by_place_r)
theorem ok_by_place_r {P : Program} {w : World} {K : PySem.W.Frag} {mg : PySem.Str → Option Value} {base : Heap} (T : Txt mg) (L : ClsF K mg) (E_ : ErrF K mg erL) (S_ : SysF K) (C_ei : CalEK P w K mg base erL) {f : Addr} {fd : FuncData} (Fn : FnP K "_law_by_place" s_by_place_r f fd) : FnOk P w K mg base CX0 3 f fd ["_law_one"] (sp_by_place_r K) := by
  obtain ⟨fd_ei, G_ei, b_ei, kb_ei⟩ := C_ei.ex
  refine Fn.ok sc_by_place_r (fun vs H Q E h => Psp1_len h) (fun cdv A outer s H vs Q E hr h => ?_)
  obtain ⟨F, v_one, one, res, rfl, ex, r_one, hm, hQ⟩ := h
  have k := Cov.init ex
  generalize hc : Act.mk H F [] = c at k hQ
  unfold m_by_place_r at hm
  refine ⟨_, PSs.nox (pss_cons (ps_set (i := 1) sc_by_place_r.nd rfl (Or.inl rfl) (pe_lst (pa_cons (pe_ox (E_.oex _ er_InvalidSize) (E_.ini _ er_InvalidSize) E_.fnI G_ei (hr.mono (by decide)) b_ei rfl pass0 (by rfl) (E_.glo _ er_InvalidSize) (pv 0)) (pa_cons (pe_ox (E_.oex _ er_InvalidPlace) (E_.ini _ er_InvalidPlace) E_.fnI G_ei (hr.mono (by decide)) b_ei rfl pass0 (by rfl) (E_.glo _ er_InvalidPlace) (pv 0)) (pa_cons (pe_ox (E_.oex _ er_DoublePlace) (E_.ini _ er_DoublePlace) E_.fnI G_ei (hr.mono (by decide)) b_ei rfl pass0 (by rfl) (E_.glo _ er_DoublePlace) (pv 0)) (pa_cons (pe_ox (E_.oex _ er_InvalidMatrix) (E_.ini _ er_InvalidMatrix) E_.fnI G_ei (hr.mono (by decide)) b_ei rfl pass0 (by rfl) (E_.glo _ er_InvalidMatrix) (pv 0)) (pa_cons (pe_ox (E_.oex _ er_InvalidStep) (E_.ini _ er_InvalidStep) E_.fnI G_ei (hr.mono (by decide)) b_ei rfl pass0 (by rfl) (E_.glo _ er_InvalidStep) (pv 0)) pa_nil))))))) (pss_cons (ps_set (i := 2) sc_by_place_r.nd rfl (Or.inl rfl) (pe_lst (pa_cons (pe_ox (E_.oex _ er_InvalidNumber) (E_.ini _ er_InvalidNumber) E_.fnI G_ei (hr.mono (by decide)) b_ei rfl pass0 (by rfl) (E_.glo _ er_InvalidNumber) (pv 0)) (pa_cons (pe_ox (E_.oex _ er_InvalidWord) (E_.ini _ er_InvalidWord) E_.fnI G_ei (hr.mono (by decide)) b_ei rfl pass0 (by rfl) (E_.glo _ er_InvalidWord) (pv 0)) (pa_cons (pe_ox (E_.oex _ er_Conflict) (E_.ini _ er_Conflict) E_.fnI G_ei (hr.mono (by decide)) b_ei rfl pass0 (by rfl) (E_.glo _ er_Conflict) (pv 0)) (pa_cons (pe_ox (E_.oex _ er_Barred) (E_.ini _ er_Barred) E_.fnI G_ei (hr.mono (by decide)) b_ei rfl pass0 (by rfl) (E_.glo _ er_Barred) (pv 0)) (pa_cons (pe_ox (E_.oex _ er_Taken) (E_.ini _ er_Taken) E_.fnI G_ei (hr.mono (by decide)) b_ei rfl pass0 (by rfl) (E_.glo _ er_Taken) (pv 0)) (pa_cons (pe_ox (E_.oex _ er_Wrong) (E_.ini _ er_Wrong) E_.fnI G_ei (hr.mono (by decide)) b_ei rfl pass0 (by rfl) (E_.glo _ er_Wrong) (pv 0)) pa_nil)))))))) (pss_one (ps_ret (pe_op op_cat (pe_op op_cat (pv 1) (pv 2)) (pe_lst (pa_cons (pe_ox (E_.oex _ er_NothingToUndo) (E_.ini _ er_NothingToUndo) E_.fnI G_ei (hr.mono (by decide)) b_ei rfl pass0 (by rfl) (E_.glo _ er_NothingToUndo) (pv 0)) (pa_cons (pe_ox (E_.oex _ er_Unreadable) (E_.ini _ er_Unreadable) E_.fnI G_ei (hr.mono (by decide)) b_ei rfl pass0 (by rfl) (E_.glo _ er_Unreadable) (pv 0)) pa_nil)))))))), ?_⟩
  show (_ : TS) _ [some v_one, none, none] _
  obtain ⟨places_n, hx, hm⟩ := bind_some hm
  refine q_set ((ef_lst (ea_cons (em_oxG E_ er_InvalidSize (em_var (i := 0) rfl r_one)) (ea_cons (em_oxG E_ er_InvalidPlace (em_var (i := 0) rfl r_one)) (ea_cons (em_oxG E_ er_DoublePlace (em_var (i := 0) rfl r_one)) (ea_cons (em_oxG E_ er_InvalidMatrix (em_var (i := 0) rfl r_one)) (ea_cons (em_oxG E_ er_InvalidStep (em_var (i := 0) rfl r_one)) ea_nil))))))).em hx k fun v_places F H e k r_places => ?_
  obtain ⟨places, ez_⟩ : ∃ z, z = places_n := ⟨_, rfl⟩; subst ez_
  show (_ : TS) _ [some v_one, some v_places, none] _
  have r_one := rRaw.up e r_one
  obtain ⟨words_n, hx, hm⟩ := bind_some hm
  refine q_set ((ef_lst (ea_cons (em_oxG E_ er_InvalidNumber (em_var (i := 0) rfl r_one)) (ea_cons (em_oxG E_ er_InvalidWord (em_var (i := 0) rfl r_one)) (ea_cons (em_oxG E_ er_Conflict (em_var (i := 0) rfl r_one)) (ea_cons (em_oxG E_ er_Barred (em_var (i := 0) rfl r_one)) (ea_cons (em_oxG E_ er_Taken (em_var (i := 0) rfl r_one)) (ea_cons (em_oxG E_ er_Wrong (em_var (i := 0) rfl r_one)) ea_nil)))))))).em hx k fun v_words F H e k r_words => ?_
  obtain ⟨words, ez_⟩ : ∃ z, z = words_n := ⟨_, rfl⟩; subst ez_
  show (_ : TS) _ [some v_one, some v_places, some v_words] _
  have r_one := rRaw.up e r_one
  have r_places := (rLst (rExG K erL rRaw)).up e r_places
  obtain ⟨rv, hv, hm⟩ := bind_some hm
  have hm := Option.some.inj hm
  cases hm
  exact a_ret ((ef_cat ((ef_cat ((em_var (i := 1) rfl r_places)).es ((em_var (i := 2) rfl r_words)).es)).em.es ((ef_lst (ea_cons (em_oxG E_ er_NothingToUndo (em_var (i := 0) rfl r_one)) (ea_cons (em_oxG E_ er_Unreadable (em_var (i := 0) rfl r_one)) ea_nil)))).em.es)).em hv k fun v F H e k r => hQ v F H k.dropAll r
abbrev s_by_name : Stmt := topS 21
abbrev N_by_name : List PySem.Str := ["_law_one", "_law_places", "_law_numbers", "_law_ends"]
theorem sc_by_name : FnScope N_by_name ["_law_one"] (defScope s_by_name) := ⟨rfl, rfl, rfl, by decide +kernel, rfl, by decide +kernel, by decide +kernel⟩
def sp_by_name (K : PySem.W.Frag) : Sp := (Psp1 rDz (rLst (rExG K erL rDz)) m_by_name)
theorem ok_by_name {P : Program} {w : World} {K : PySem.W.Frag} {mg : PySem.Str → Option Value} {base : Heap} (T : Txt mg) (L : ClsF K mg) (E_ : ErrF K mg erL) (S_ : SysF K) (C_ei : CalEK P w K mg base erL) {f : Addr} {fd : FuncData} (Fn : FnP K "_law_by_name" s_by_name f fd) : FnOk P w K mg base CX0 3 f fd ["_law_one"] (sp_by_name K) := by
  obtain ⟨fd_ei, G_ei, b_ei, kb_ei⟩ := C_ei.ex
  refine Fn.ok sc_by_name (fun vs H Q E h => Psp1_len h) (fun cdv A outer s H vs Q E hr h => ?_)
  obtain ⟨F, v_one, one, res, rfl, ex, r_one, hm, hQ⟩ := h
  have k := Cov.init ex
  generalize hc : Act.mk H F [] = c at k hQ
  unfold m_by_name at hm
  refine ⟨_, PSs.nox (pss_cons (ps_set (i := 1) sc_by_name.nd rfl (Or.inl rfl) (pe_lst (pa_cons (pe_oxK (E_.oex _ er_InvalidSize) (E_.ini _ er_InvalidSize) E_.fnI G_ei (hr.mono (by decide)) kb_ei pass0 (by rfl) (E_.glo _ er_InvalidSize) (pv 0)) (pa_cons (pe_oxK (E_.oex _ er_InvalidPlace) (E_.ini _ er_InvalidPlace) E_.fnI G_ei (hr.mono (by decide)) kb_ei pass0 (by rfl) (E_.glo _ er_InvalidPlace) (pv 0)) (pa_cons (pe_oxK (E_.oex _ er_DoublePlace) (E_.ini _ er_DoublePlace) E_.fnI G_ei (hr.mono (by decide)) kb_ei pass0 (by rfl) (E_.glo _ er_DoublePlace) (pv 0)) (pa_cons (pe_oxK (E_.oex _ er_InvalidMatrix) (E_.ini _ er_InvalidMatrix) E_.fnI G_ei (hr.mono (by decide)) kb_ei pass0 (by rfl) (E_.glo _ er_InvalidMatrix) (pv 0)) pa_nil)))))) (pss_cons (ps_set (i := 2) sc_by_name.nd rfl (Or.inl rfl) (pe_lst (pa_cons (pe_oxK (E_.oex _ er_InvalidStep) (E_.ini _ er_InvalidStep) E_.fnI G_ei (hr.mono (by decide)) kb_ei pass0 (by rfl) (E_.glo _ er_InvalidStep) (pv 0)) (pa_cons (pe_oxK (E_.oex _ er_InvalidNumber) (E_.ini _ er_InvalidNumber) E_.fnI G_ei (hr.mono (by decide)) kb_ei pass0 (by rfl) (E_.glo _ er_InvalidNumber) (pv 0)) (pa_cons (pe_oxK (E_.oex _ er_InvalidWord) (E_.ini _ er_InvalidWord) E_.fnI G_ei (hr.mono (by decide)) kb_ei pass0 (by rfl) (E_.glo _ er_InvalidWord) (pv 0)) (pa_cons (pe_oxK (E_.oex _ er_Conflict) (E_.ini _ er_Conflict) E_.fnI G_ei (hr.mono (by decide)) kb_ei pass0 (by rfl) (E_.glo _ er_Conflict) (pv 0)) pa_nil)))))) (pss_cons (ps_set (i := 3) sc_by_name.nd rfl (Or.inl rfl) (pe_lst (pa_cons (pe_oxK (E_.oex _ er_Barred) (E_.ini _ er_Barred) E_.fnI G_ei (hr.mono (by decide)) kb_ei pass0 (by rfl) (E_.glo _ er_Barred) (pv 0)) (pa_cons (pe_oxK (E_.oex _ er_Taken) (E_.ini _ er_Taken) E_.fnI G_ei (hr.mono (by decide)) kb_ei pass0 (by rfl) (E_.glo _ er_Taken) (pv 0)) (pa_cons (pe_oxK (E_.oex _ er_Wrong) (E_.ini _ er_Wrong) E_.fnI G_ei (hr.mono (by decide)) kb_ei pass0 (by rfl) (E_.glo _ er_Wrong) (pv 0)) (pa_cons (pe_oxK (E_.oex _ er_NothingToUndo) (E_.ini _ er_NothingToUndo) E_.fnI G_ei (hr.mono (by decide)) kb_ei pass0 (by rfl) (E_.glo _ er_NothingToUndo) (pv 0)) pa_nil)))))) (pss_one (ps_ret (pe_op op_cat (pe_op op_cat (pe_op op_cat (pv 1) (pv 2)) (pv 3)) (pe_lst (pa_cons (pe_oxK (E_.oex _ er_Unreadable) (E_.ini _ er_Unreadable) E_.fnI G_ei (hr.mono (by decide)) kb_ei pass0 (by rfl) (E_.glo _ er_Unreadable) (pv 0)) pa_nil)))))))), ?_⟩
  show (_ : TS) _ [some v_one, none, none, none] _
  obtain ⟨places_n, hx, hm⟩ := bind_some hm
  refine q_set ((ef_lst (ea_cons (em_oxG E_ er_InvalidSize (em_var (i := 0) rfl r_one)) (ea_cons (em_oxG E_ er_InvalidPlace (em_var (i := 0) rfl r_one)) (ea_cons (em_oxG E_ er_DoublePlace (em_var (i := 0) rfl r_one)) (ea_cons (em_oxG E_ er_InvalidMatrix (em_var (i := 0) rfl r_one)) ea_nil)))))).em hx k fun v_places F H e k r_places => ?_
  obtain ⟨places, ez_⟩ : ∃ z, z = places_n := ⟨_, rfl⟩; subst ez_
  show (_ : TS) _ [some v_one, some v_places, none, none] _
  have r_one := rDz.up e r_one
  obtain ⟨numbers_n, hx, hm⟩ := bind_some hm
  refine q_set ((ef_lst (ea_cons (em_oxG E_ er_InvalidStep (em_var (i := 0) rfl r_one)) (ea_cons (em_oxG E_ er_InvalidNumber (em_var (i := 0) rfl r_one)) (ea_cons (em_oxG E_ er_InvalidWord (em_var (i := 0) rfl r_one)) (ea_cons (em_oxG E_ er_Conflict (em_var (i := 0) rfl r_one)) ea_nil)))))).em hx k fun v_numbers F H e k r_numbers => ?_
  obtain ⟨numbers, ez_⟩ : ∃ z, z = numbers_n := ⟨_, rfl⟩; subst ez_
  show (_ : TS) _ [some v_one, some v_places, some v_numbers, none] _
  have r_one := rDz.up e r_one
  have r_places := (rLst (rExG K erL rDz)).up e r_places
  obtain ⟨ends_n, hx, hm⟩ := bind_some hm
  refine q_set ((ef_lst (ea_cons (em_oxG E_ er_Barred (em_var (i := 0) rfl r_one)) (ea_cons (em_oxG E_ er_Taken (em_var (i := 0) rfl r_one)) (ea_cons (em_oxG E_ er_Wrong (em_var (i := 0) rfl r_one)) (ea_cons (em_oxG E_ er_NothingToUndo (em_var (i := 0) rfl r_one)) ea_nil)))))).em hx k fun v_ends F H e k r_ends => ?_
  obtain ⟨ends, ez_⟩ : ∃ z, z = ends_n := ⟨_, rfl⟩; subst ez_
  show (_ : TS) _ [some v_one, some v_places, some v_numbers, some v_ends] _
  have r_one := rDz.up e r_one
  have r_places := (rLst (rExG K erL rDz)).up e r_places
  have r_numbers := (rLst (rExG K erL rDz)).up e r_numbers
  obtain ⟨rv, hv, hm⟩ := bind_some hm
  have hm := Option.some.inj hm
  cases hm
  exact a_ret ((ef_cat ((ef_cat ((ef_cat ((em_var (i := 1) rfl r_places)).es ((em_var (i := 2) rfl r_numbers)).es)).em.es ((em_var (i := 3) rfl r_ends)).es)).em.es ((ef_lst (ea_cons (em_oxG E_ er_Unreadable (em_var (i := 0) rfl r_one)) ea_nil))).em.es)).em hv k fun v F H e k r => hQ v F H k.dropAll r
abbrev s_by_name_r : Stmt := topS 21
abbrev N_by_name_r : List PySem.Str := ["_law_one", "_law_places", "_law_numbers", "_law_ends"]
theorem sc_by_name_r : FnScope N_by_name_r ["_law_one"] (defScope s_by_name_r) := ⟨rfl, rfl, rfl, by decide +kernel, rfl, by decide +kernel, by decide +kernel⟩
def sp_by_name_r (K : PySem.W.Frag) : Sp := (Psp1 rRaw (rLst (rExG K erL rRaw)) m_by_name_r)
theorem ok_by_name_r {P : Program} {w : World} {K : PySem.W.Frag} {mg : PySem.Str → Option Value} {base : Heap} (T : Txt mg) (L : ClsF K mg) (E_ : ErrF K mg erL) (S_ : SysF K) (C_ei : CalEK P w K mg base erL) {f : Addr} {fd : FuncData} (Fn : FnP K "_law_by_name" s_by_name_r f fd) : FnOk P w K mg base CX0 3 f fd ["_law_one"] (sp_by_name_r K) := by
  obtain ⟨fd_ei, G_ei, b_ei, kb_ei⟩ := C_ei.ex
  refine Fn.ok sc_by_name_r (fun vs H Q E h => Psp1_len h) (fun cdv A outer s H vs Q E hr h => ?_)
  obtain ⟨F, v_one, one, res, rfl, ex, r_one, hm, hQ⟩ := h
  have k := Cov.init ex
  generalize hc : Act.mk H F [] = c at k hQ
  unfold m_by_name_r at hm
  refine ⟨_, PSs.nox (pss_cons (ps_set (i := 1) sc_by_name_r.nd rfl (Or.inl rfl) (pe_lst (pa_cons (pe_oxK (E_.oex _ er_InvalidSize) (E_.ini _ er_InvalidSize) E_.fnI G_ei (hr.mono (by decide)) kb_ei pass0 (by rfl) (E_.glo _ er_InvalidSize) (pv 0)) (pa_cons (pe_oxK (E_.oex _ er_InvalidPlace) (E_.ini _ er_InvalidPlace) E_.fnI G_ei (hr.mono (by decide)) kb_ei pass0 (by rfl) (E_.glo _ er_InvalidPlace) (pv 0)) (pa_cons (pe_oxK (E_.oex _ er_DoublePlace) (E_.ini _ er_DoublePlace) E_.fnI G_ei (hr.mono (by decide)) kb_ei pass0 (by rfl) (E_.glo _ er_DoublePlace) (pv 0)) (pa_cons (pe_oxK (E_.oex _ er_InvalidMatrix) (E_.ini _ er_InvalidMatrix) E_.fnI G_ei (hr.mono (by decide)) kb_ei pass0 (by rfl) (E_.glo _ er_InvalidMatrix) (pv 0)) pa_nil)))))) (pss_cons (ps_set (i := 2) sc_by_name_r.nd rfl (Or.inl rfl) (pe_lst (pa_cons (pe_oxK (E_.oex _ er_InvalidStep) (E_.ini _ er_InvalidStep) E_.fnI G_ei (hr.mono (by decide)) kb_ei pass0 (by rfl) (E_.glo _ er_InvalidStep) (pv 0)) (pa_cons (pe_oxK (E_.oex _ er_InvalidNumber) (E_.ini _ er_InvalidNumber) E_.fnI G_ei (hr.mono (by decide)) kb_ei pass0 (by rfl) (E_.glo _ er_InvalidNumber) (pv 0)) (pa_cons (pe_oxK (E_.oex _ er_InvalidWord) (E_.ini _ er_InvalidWord) E_.fnI G_ei (hr.mono (by decide)) kb_ei pass0 (by rfl) (E_.glo _ er_InvalidWord) (pv 0)) (pa_cons (pe_oxK (E_.oex _ er_Conflict) (E_.ini _ er_Conflict) E_.fnI G_ei (hr.mono (by decide)) kb_ei pass0 (by rfl) (E_.glo _ er_Conflict) (pv 0)) pa_nil)))))) (pss_cons (ps_set (i := 3) sc_by_name_r.nd rfl (Or.inl rfl) (pe_lst (pa_cons (pe_oxK (E_.oex _ er_Barred) (E_.ini _ er_Barred) E_.fnI G_ei (hr.mono (by decide)) kb_ei pass0 (by rfl) (E_.glo _ er_Barred) (pv 0)) (pa_cons (pe_oxK (E_.oex _ er_Taken) (E_.ini _ er_Taken) E_.fnI G_ei (hr.mono (by decide)) kb_ei pass0 (by rfl) (E_.glo _ er_Taken) (pv 0)) (pa_cons (pe_oxK (E_.oex _ er_Wrong) (E_.ini _ er_Wrong) E_.fnI G_ei (hr.mono (by decide)) kb_ei pass0 (by rfl) (E_.glo _ er_Wrong) (pv 0)) (pa_cons (pe_oxK (E_.oex _ er_NothingToUndo) (E_.ini _ er_NothingToUndo) E_.fnI G_ei (hr.mono (by decide)) kb_ei pass0 (by rfl) (E_.glo _ er_NothingToUndo) (pv 0)) pa_nil)))))) (pss_one (ps_ret (pe_op op_cat (pe_op op_cat (pe_op op_cat (pv 1) (pv 2)) (pv 3)) (pe_lst (pa_cons (pe_oxK (E_.oex _ er_Unreadable) (E_.ini _ er_Unreadable) E_.fnI G_ei (hr.mono (by decide)) kb_ei pass0 (by rfl) (E_.glo _ er_Unreadable) (pv 0)) pa_nil)))))))), ?_⟩
  show (_ : TS) _ [some v_one, none, none, none] _
  obtain ⟨places_n, hx, hm⟩ := bind_some hm
  refine q_set ((ef_lst (ea_cons (em_oxG E_ er_InvalidSize (em_var (i := 0) rfl r_one)) (ea_cons (em_oxG E_ er_InvalidPlace (em_var (i := 0) rfl r_one)) (ea_cons (em_oxG E_ er_DoublePlace (em_var (i := 0) rfl r_one)) (ea_cons (em_oxG E_ er_InvalidMatrix (em_var (i := 0) rfl r_one)) ea_nil)))))).em hx k fun v_places F H e k r_places => ?_
  obtain ⟨places, ez_⟩ : ∃ z, z = places_n := ⟨_, rfl⟩; subst ez_
  show (_ : TS) _ [some v_one, some v_places, none, none] _
  have r_one := rRaw.up e r_one
  obtain ⟨numbers_n, hx, hm⟩ := bind_some hm
  refine q_set ((ef_lst (ea_cons (em_oxG E_ er_InvalidStep (em_var (i := 0) rfl r_one)) (ea_cons (em_oxG E_ er_InvalidNumber (em_var (i := 0) rfl r_one)) (ea_cons (em_oxG E_ er_InvalidWord (em_var (i := 0) rfl r_one)) (ea_cons (em_oxG E_ er_Conflict (em_var (i := 0) rfl r_one)) ea_nil)))))).em hx k fun v_numbers F H e k r_numbers => ?_
  obtain ⟨numbers, ez_⟩ : ∃ z, z = numbers_n := ⟨_, rfl⟩; subst ez_
  show (_ : TS) _ [some v_one, some v_places, some v_numbers, none] _
  have r_one := rRaw.up e r_one
  have r_places := (rLst (rExG K erL rRaw)).up e r_places
  obtain ⟨ends_n, hx, hm⟩ := bind_some hm
  refine q_set ((ef_lst (ea_cons (em_oxG E_ er_Barred (em_var (i := 0) rfl r_one)) (ea_cons (em_oxG E_ er_Taken (em_var (i := 0) rfl r_one)) (ea_cons (em_oxG E_ er_Wrong (em_var (i := 0) rfl r_one)) (ea_cons (em_oxG E_ er_NothingToUndo (em_var (i := 0) rfl r_one)) ea_nil)))))).em hx k fun v_ends F H e k r_ends => ?_
  obtain ⟨ends, ez_⟩ : ∃ z, z = ends_n := ⟨_, rfl⟩; subst ez_
  show (_ : TS) _ [some v_one, some v_places, some v_numbers, some v_ends] _
  have r_one := rRaw.up e r_one
  have r_places := (rLst (rExG K erL rRaw)).up e r_places
  have r_numbers := (rLst (rExG K erL rRaw)).up e r_numbers
  obtain ⟨rv, hv, hm⟩ := bind_some hm
  have hm := Option.some.inj hm
  cases hm
  exact a_ret ((ef_cat ((ef_cat ((ef_cat ((em_var (i := 1) rfl r_places)).es ((em_var (i := 2) rfl r_numbers)).es)).em.es ((em_var (i := 3) rfl r_ends)).es)).em.es ((ef_lst (ea_cons (em_oxG E_ er_Unreadable (em_var (i := 0) rfl r_one)) ea_nil))).em.es)).em hv k fun v F H e k r => hQ v F H k.dropAll r
abbrev s_row_right : Stmt := topS 22
abbrev N_row_right : List PySem.Str := ["_law_made", "_law_due", "_law_k", "_law_j"]
theorem sc_row_right : FnScope N_row_right ["_law_made", "_law_due"] (defScope s_row_right) := ⟨rfl, rfl, rfl, by decide +kernel, rfl, by decide +kernel, by decide +kernel⟩
def sp_row_right (K : PySem.W.Frag) : Sp := (Psp2 (rLst (rExG K erL rDz)) rStr rBool m_row_right)
theorem ok_row_right {P : Program} {w : World} {K : PySem.W.Frag} {mg : PySem.Str → Option Value} {base : Heap} (T : Txt mg) (L : ClsF K mg) (E_ : ErrF K mg erL) (S_ : SysF K) (C_marks : Cal P w K mg base 1 "_law_marks" ["_law_e"] (sp_marks K) (fun _ => True)) {f : Addr} {fd : FuncData} (Fn : FnP K "_law_row_right" s_row_right f fd) : FnG P w K mg base CX0 2 f fd ["_law_made", "_law_due"] (sp_row_right K) := by
  obtain ⟨f_marks, fd_marks, G_marks, g_marks, kp_marks, b_marks, _⟩ := C_marks.ex
  refine okG_of Fn sc_row_right (fun vs H Q E h => Psp2_len h) (fun cdv A outer s H vs Q E hr hgd h => ?_)
  obtain ⟨F, v_made, v_due, made, due, res, rfl, ex, r_made, r_due, hm, hQ⟩ := h
  have k := Cov.init ex
  generalize hc : Act.mk H F [] = c at k hQ
  unfold m_row_right at hm
  refine ⟨_, PSs.nox (pss_cons (ps_for PassesOwn.never rfl (pi_range1 (by rfl) T.b_range (pa_cons pe_int pa_nil)) (pg_name (i := 2) sc_row_right.nd rfl (Or.inr rfl)) (pss_cons (ps_if (PW.pt (pw_or (pt_cmpR (op_neDK K rfl hr.units) (pe_call G_marks (hr.mono (by decide)) (by rfl) g_marks kp_marks b_marks .nil pass0 (pa_cons (pe_ix (ix_listK K rfl) (pv 0) (pv 2) (fun _ _ => rfl)) pa_nil)) (pe_lc (own := [("_law_j", 3)]) (g := (gName 3)) (tt := tYes) rfl sc_row_right.nd (pi_range1 (by rfl) T.b_range (pa_cons pe_int pa_nil)) (blkOk_by (N := N_row_right) (sc := defScope s_row_right) (by decide +kernel)) (fun _ _ _ _ _ => (pg_name (i := 3) sc_row_right.nd rfl (Or.inl rfl))) (fun _ _ _ _ _ => pts_nil) (fun _ _ _ _ _ => (pe_cmpR op_eq (pv 3) (pv 2) (nomark _)))) (nomark _)) (pw_or1 (pt_cmpR op_ne (pe_callB (call_reprZ (by have z := unZ hr; exact z) hgd S_) (by rfl) T.b_repr (by decide +kernel) (pa_cons (pe_xfT K rfl (pe_ix (ix_listK K rfl) (pv 0) (pv 2) (fun _ _ => rfl))) pa_nil)) (pv 1) (nomark _))))) (pss_one (ps_ret pe_bl)) pss_nil) (pss_one (ps_if (PW.pt (pw_or (pt_not (pt_val (pe_callB (call_isX K rfl) (by rfl) T.b_isinstance (by decide +kernel) (pa_cons (pe_ix (ix_listK K rfl) (pv 0) (pv 2) (fun _ _ => rfl)) (pa_cons (pe_glob (v := .ref (He.ga K "PostError")) (by rfl) (E_.glo _ er_PostError) rfl) pa_nil))))) (pw_or1 (pt_not (pt_val (pe_callB (call_isX K rfl) (by rfl) T.b_isinstance (by decide +kernel) (pa_cons (pe_ix (ix_listK K rfl) (pv 0) (pv 2) (fun _ _ => rfl)) (pa_cons (pe_bltn (v := .ty "ValueError") (by rfl) T.b_ValueError (by decide +kernel) rfl) pa_nil)))))))) (pss_one (ps_ret pe_bl)) pss_nil)))) (pss_one (ps_ret (pe_cmpR op_eq (pe_callB (call_len_seqK K rfl) (by rfl) T.b_len PySem.boot_len (pa_cons (pv 0) pa_nil)) pe_int (nomark _))))), ?_⟩
  show (_ : TS) _ [some v_made, some v_due, none, none] _
  obtain ⟨l_, hl, hm⟩ := bind_some hm
  obtain ⟨out1, hf, hm⟩ := bind_some hm
  have hm1 := hm
  refine sq ?_
  refine a_loop (ei_rng1 em_int) hl k hf fun F H e k => ⟨fun g σ1 F1 H1 => ∃ w_k_, σ1 = [some v_made, some v_due, w_k_, none] ∧ Ex F F1 ∧ Cov c F1 [] H1, fun g => [], ?_, ?_, ?_, ?_⟩
  · exact ⟨_, rfl, Evl.Ex.refl _, k⟩
  · rintro g σ1 F1 H1 ⟨_, rfl, e1, k1⟩
    exact ⟨e1, k1⟩
  · rintro d v ⟨⟩ oo1 σ1 F1 H1 F H ⟨w_k_, rfl, eL1, _⟩ e1 k rd hm hret1 hbrk1
    have eL1 := eL1.trans e1
    have r_made := (rLst (rExG K erL rDz)).up (e.trans eL1) r_made
    obtain ⟨k_, ez_⟩ : ∃ z, z = d := ⟨_, rfl⟩; subst ez_
    obtain ⟨v_k_, ez_⟩ : ∃ z, z = v := ⟨_, rfl⟩; subst ez_
    have r_k_ := rd
    refine gn (σ1 := [some v_made, some v_due, some v_k_, none]) rfl ?_
    obtain ⟨b, hb, hm⟩ := bind_some hm
    refine q_ife (et_or (et_test (em_op (vo_neD (dq_lst dq_bool) (Nat.le_of_ble_eq_true rfl)) (em_Pcall1 (el_ix ((em_var (i := 0) rfl r_made)).el (em_varf (i := 2) fl_int rfl r_k_))) ((ef_lc (K := K) (t := yes) (f := fun (j : Int) => (some (decide (j = k_)))) (S := (fun d F1 σ2 => ∃ v_j, σ2 = [some v_made, some v_due, some v_k_, some v_j] ∧ rInt.r F1 v_j d)) (ei_rng1 em_int) (gt_name (fun _ => rfl)) (fun d F1 σ2 hs => by obtain ⟨_, rfl, _⟩ := hs; rfl) (fun _ _ _ _ _ => et_yes) (by intro j F1 σ2 e1 hs; obtain ⟨v_j, rfl, r_j⟩ := hs; have r_made := (rLst (rExG K erL rDz)).up e1 r_made; exact (em_op vo_eqI (em_varf (i := 3) fl_int rfl r_j) (em_varf (i := 2) fl_int rfl r_k_))))).em)) (et_test (em_op vo_neS (em_cb vc_reprZ (em_valG E_ (el_ix ((em_var (i := 0) rfl r_made)).el (em_varf (i := 2) fl_int rfl r_k_)))) (em_varf (i := 1) fl_str rfl r_due)))) hb k (fun eb F H e k => ?_) (fun eb F H e k => ?_)
    ·
      subst eb
      have hm := hT hm
      have r_made := (rLst (rExG K erL rDz)).up e r_made
      have eL1 := eL1.trans e
      obtain ⟨rv, hv, hm⟩ := bind_some hm
      have hm := Option.some.inj hm
      subst hm
      have ho1 := hret1 _ rfl
      rw [ho1] at hm1
      have hm := Option.some.inj hm1
      cases hm
      exact a_ret em_bl hv k fun v F H e k r => hQ v F H k.dropAll r
    ·
      subst eb
      have hm := hF hm
      have r_made := (rLst (rExG K erL rDz)).up e r_made
      have eL1 := eL1.trans e
      obtain ⟨b, hb, hm⟩ := bind_some hm
      refine a_if (et_or (et_not (et_B (em_isXG E_ er_PostError (el_ix ((em_var (i := 0) rfl r_made)).el (em_varf (i := 2) fl_int rfl r_k_))))) (et_not (et_B (em_isXVG E_ (el_ix ((em_var (i := 0) rfl r_made)).el (em_varf (i := 2) fl_int rfl r_k_)))))) hb k (fun eb F H e k => ?_) (fun eb F H e k => ?_)
      ·
        subst eb
        have hm := hT hm
        have r_made := (rLst (rExG K erL rDz)).up e r_made
        have eL1 := eL1.trans e
        obtain ⟨rv, hv, hm⟩ := bind_some hm
        have hm := Option.some.inj hm
        subst hm
        have ho1 := hret1 _ rfl
        rw [ho1] at hm1
        have hm := Option.some.inj hm1
        cases hm
        exact a_ret em_bl hv k fun v F H e k r => hQ v F H k.dropAll r
      ·
        subst eb
        have hm := hF hm
        have r_made := (rLst (rExG K erL rDz)).up e r_made
        have eL1 := eL1.trans e
        show Ends.nx _ _ _
        have hm := Option.some.inj hm
        subst hm
        exact ⟨F, _, rfl, _, rfl, eL1, k⟩
  rintro ⟨⟩ σ1 F H eo ⟨w_k_, rfl, e1, k⟩
  subst eo
  have r_made := (rLst (rExG K erL rDz)).up (e.trans e1) r_made
  refine nxh ?_
  obtain ⟨rv, hv, hm⟩ := bind_some hm
  have hm := Option.some.inj hm
  cases hm
  exact a_ret (em_op vo_eqI (el_len ((em_var (i := 0) rfl r_made)).el) em_int) hv k fun v F H e k r => hQ v F H k.dropAll r
abbrev s_caught : Stmt := topS 23
abbrev N_caught : List PySem.Str := ["_law_one", "_law_door", "_law_drawn", "_law_e"]
theorem sc_caught : FnScope N_caught ["_law_one", "_law_door"] (defScope s_caught) := ⟨rfl, rfl, rfl, by decide +kernel, rfl, by decide +kernel, by decide +kernel⟩
def sp_caught (K : PySem.W.Frag) : Sp := (Psp2 rDz rInt rStr m_caught)
theorem ok_caught {P : Program} {w : World} {K : PySem.W.Frag} {mg : PySem.Str → Option Value} {base : Heap} (T : Txt mg) (L : ClsF K mg) (E_ : ErrF K mg erL) (S_ : SysF K) (C_ei : CalEK P w K mg base erL) {f : Addr} {fd : FuncData} (Fn : FnP K "_law_caught" s_caught f fd) : FnG P w K mg base CX0 3 f fd ["_law_one", "_law_door"] (sp_caught K) := by
  obtain ⟨fd_ei, G_ei, b_ei, kb_ei⟩ := C_ei.ex
  refine okG_of Fn sc_caught (fun vs H Q E h => Psp2_len h) (fun cdv A outer s H vs Q E hr hgd h => ?_)
  obtain ⟨F, v_one, v_door, one, door, res, rfl, ex, r_one, r_door, hm, hQ⟩ := h
  have k := Cov.init ex
  generalize hc : Act.mk H F [] = c at k hQ
  unfold m_caught at hm
  refine ⟨_, PSs.nox (pss_cons (ps_set (i := 2) sc_caught.nd rfl (Or.inl rfl) pe_str) (Evl.pss_cut (ps_try_T (i := 3) rfl rfl rfl sc_caught.nd rfl (by rfl) ⟨by rfl, by decide, .inl (E_.glo _ er_PostError)⟩ takes0 (fun W pn xe tkW _ => (pss_cons (ps_if (pt_cmpR op_eq (pv 1) pe_int (nomark _)) (pss_one (ps_raise rfl tkW (pmk_oex (E_.oex _ er_PostError) (E_.ini _ er_PostError) E_.fnI G_ei (hr.mono (by decide)) b_ei .nil pass0 (by rfl) (E_.glo _ er_PostError) (pa_cons (pv 0) pa_nil)))) pss_nil) (pss_cons (ps_if (pt_cmpR op_eq (pv 1) pe_int (nomark _)) (pss_one (ps_raise rfl tkW (pmk_oex (E_.oex _ er_Unreadable) (E_.ini _ er_Unreadable) E_.fnI G_ei (hr.mono (by decide)) b_ei .nil pass0 (by rfl) (E_.glo _ er_Unreadable) (pa_cons (pv 0) pa_nil)))) pss_nil) (pss_one (ps_raise rfl tkW (pmk_oexK (E_.oex _ er_Barred) (E_.ini _ er_Barred) E_.fnI G_ei (hr.mono (by decide)) kb_ei rfl pass0 (by rfl) (E_.glo _ er_Barred) (pv 0))))))) (fun a_ pn => (pss_one (ps_set (i := 2) sc_caught.nd rfl (Or.inl rfl) (pe_callB (call_reprZ (by have z := unZ hr; exact z) hgd S_) (by rfl) T.b_repr (by decide +kernel) (pa_cons (pe_xfT K rfl (pv 3)) pa_nil)))))) (pss_one (ps_ret (pv 2))))), ?_⟩
  show (_ : TS) _ [some v_one, some v_door, none, none] _
  obtain ⟨drawn_n, hx, hm⟩ := bind_some hm
  refine q_set em_str hx k fun v_drawn F H e k r_drawn => ?_
  obtain ⟨drawn, ez_⟩ : ∃ z, z = drawn_n := ⟨_, rfl⟩; subst ez_
  show (_ : TS) _ [some v_one, some v_door, some v_drawn, none] _
  have r_one := rDz.up e r_one
  obtain ⟨drawn_j, hj, hm⟩ := bind_some hm
  refine q_cut (Mid := fun σ1 H1 => ∃ F1 v_drawn, σ1 = [some v_one, some v_door, some v_drawn, none] ∧ Ex F F1 ∧ Cov c F1 [] H1 ∧ rStr.r F1 v_drawn drawn_j) ?_ ?_
  ·
    obtain ⟨r9_, hb_, hj2⟩ := bind_some hj
    have hm := hb_
    have eJ2 : Ex F F := Evl.Ex.refl F
    show (_ : TS) _ [some v_one, some v_door, some v_drawn, none] _
    obtain ⟨b, hb, hm⟩ := bind_some hm
    refine q_ife (et_test (em_op vo_eqI (em_varf (i := 1) fl_int rfl r_door) em_int)) hb k (fun eb F H e k => ?_) (fun eb F H e k => ?_)
    ·
      subst eb
      have hm := hT hm
      have r_one := rDz.up e r_one
      have eJ2 := eJ2.trans e
      obtain ⟨p_, hx, hm⟩ := bind_some hm
      refine a_raiseG (σ := [some v_one, some v_door, some v_drawn, none]) E_ er_PostError (em_var (i := 0) rfl r_one) hx k fun cls dd F H e k rE => ?_
      have r_one := rDz.up e r_one
      have eJ2 := eJ2.trans e
      have hm := Option.some.inj hm
      subst hm
      try dsimp only at hj2
      obtain ⟨hL_, dd_, fs_, pv_, rfl, rfl, hF_, hl_, hp_⟩ := rE
      refine ⟨subE _ "PostError", E_.exm _ hL_ _ er_PostError, fun eb_ a_ ha_ => ?_, fun eb_ => ?_⟩
      ·
        rw [if_pos eb_] at hj2
        obtain ⟨F, e, k, r_e_⟩ := k.caughtG ha_ hL_ hF_ hl_ hp_
        have r_one := rDz.up e r_one
        have eJ2 := eJ2.trans e
        have hm := hj2
        skip
        show (_ : TS) _ [some v_one, some v_door, some v_drawn, some (.ref a_)] _
        obtain ⟨drawn_n, hx, hm⟩ := bind_some hm
        refine a_set (em_cb vc_reprZ (em_valG E_ (em_var (i := 3) rfl r_e_))) hx k fun v_drawn F H e k r_drawn => ?_
        obtain ⟨drawn, ez_⟩ : ∃ z, z = drawn_n := ⟨_, rfl⟩; subst ez_
        have r_one := rDz.up e r_one
        have r_e_ := (rExG K erL rDz).up e r_e_
        have eJ2 := eJ2.trans e
        cases hm
        exact ⟨F, v_drawn, rfl, eJ2, k, r_drawn⟩
      ·
        rw [if_neg (by rw [eb_]; decide)] at hj2
        cases hj2
    ·
      subst eb
      have hm := hF hm
      have r_one := rDz.up e r_one
      have eJ2 := eJ2.trans e
      obtain ⟨b, hb, hm⟩ := bind_some hm
      refine q_ife (et_test (em_op vo_eqI (em_varf (i := 1) fl_int rfl r_door) em_int)) hb k (fun eb F H e k => ?_) (fun eb F H e k => ?_)
      ·
        subst eb
        have hm := hT hm
        have r_one := rDz.up e r_one
        have eJ2 := eJ2.trans e
        obtain ⟨p_, hx, hm⟩ := bind_some hm
        refine a_raiseG (σ := [some v_one, some v_door, some v_drawn, none]) E_ er_Unreadable (em_var (i := 0) rfl r_one) hx k fun cls dd F H e k rE => ?_
        have r_one := rDz.up e r_one
        have eJ2 := eJ2.trans e
        have hm := Option.some.inj hm
        subst hm
        try dsimp only at hj2
        obtain ⟨hL_, dd_, fs_, pv_, rfl, rfl, hF_, hl_, hp_⟩ := rE
        refine ⟨subE _ "PostError", E_.exm _ hL_ _ er_PostError, fun eb_ a_ ha_ => ?_, fun eb_ => ?_⟩
        ·
          rw [if_pos eb_] at hj2
          obtain ⟨F, e, k, r_e_⟩ := k.caughtG ha_ hL_ hF_ hl_ hp_
          have r_one := rDz.up e r_one
          have eJ2 := eJ2.trans e
          have hm := hj2
          skip
          show (_ : TS) _ [some v_one, some v_door, some v_drawn, some (.ref a_)] _
          obtain ⟨drawn_n, hx, hm⟩ := bind_some hm
          refine a_set (em_cb vc_reprZ (em_valG E_ (em_var (i := 3) rfl r_e_))) hx k fun v_drawn F H e k r_drawn => ?_
          obtain ⟨drawn, ez_⟩ : ∃ z, z = drawn_n := ⟨_, rfl⟩; subst ez_
          have r_one := rDz.up e r_one
          have r_e_ := (rExG K erL rDz).up e r_e_
          have eJ2 := eJ2.trans e
          cases hm
          exact ⟨F, v_drawn, rfl, eJ2, k, r_drawn⟩
        ·
          rw [if_neg (by rw [eb_]; decide)] at hj2
          cases hj2
      ·
        subst eb
        have hm := hF hm
        have r_one := rDz.up e r_one
        have eJ2 := eJ2.trans e
        obtain ⟨p_, hx, hm⟩ := bind_some hm
        refine a_raiseG (σ := [some v_one, some v_door, some v_drawn, none]) E_ er_Barred (em_var (i := 0) rfl r_one) hx k fun cls dd F H e k rE => ?_
        have r_one := rDz.up e r_one
        have eJ2 := eJ2.trans e
        have hm := Option.some.inj hm
        subst hm
        try dsimp only at hj2
        obtain ⟨hL_, dd_, fs_, pv_, rfl, rfl, hF_, hl_, hp_⟩ := rE
        refine ⟨subE _ "PostError", E_.exm _ hL_ _ er_PostError, fun eb_ a_ ha_ => ?_, fun eb_ => ?_⟩
        ·
          rw [if_pos eb_] at hj2
          obtain ⟨F, e, k, r_e_⟩ := k.caughtG ha_ hL_ hF_ hl_ hp_
          have r_one := rDz.up e r_one
          have eJ2 := eJ2.trans e
          have hm := hj2
          skip
          show (_ : TS) _ [some v_one, some v_door, some v_drawn, some (.ref a_)] _
          obtain ⟨drawn_n, hx, hm⟩ := bind_some hm
          refine a_set (em_cb vc_reprZ (em_valG E_ (em_var (i := 3) rfl r_e_))) hx k fun v_drawn F H e k r_drawn => ?_
          obtain ⟨drawn, ez_⟩ : ∃ z, z = drawn_n := ⟨_, rfl⟩; subst ez_
          have r_one := rDz.up e r_one
          have r_e_ := (rExG K erL rDz).up e r_e_
          have eJ2 := eJ2.trans e
          cases hm
          exact ⟨F, v_drawn, rfl, eJ2, k, r_drawn⟩
        ·
          rw [if_neg (by rw [eb_]; decide)] at hj2
          cases hj2
  rintro σ1 H ⟨F, v_drawn, rfl, e, k, r_drawn⟩
  clear hj
  obtain ⟨drawn, ez_⟩ : ∃ z, z = drawn_j := ⟨_, rfl⟩; subst ez_
  have r_one := rDz.up e r_one
  obtain ⟨rv, hv, hm⟩ := bind_some hm
  have hm := Option.some.inj hm
  cases hm
  exact a_ret (em_varf (i := 2) fl_str rfl r_drawn) hv k fun v F H e k r => hQ v F H k.dropAll r
abbrev s_itself : Stmt := topS 24
abbrev N_itself : List PySem.Str := ["_law_trough_here", "_law_inner", "_law_one", "_law_made", "_law_e"]
theorem sc_itself : FnScope N_itself ["_law_trough_here"] (defScope s_itself) := ⟨rfl, rfl, rfl, by decide +kernel, rfl, by decide +kernel, by decide +kernel⟩
def sp_itself (K : PySem.W.Frag) : Sp := (MPsp0 (fun z => cLst rInt z)  rBool m_itself)
def madeOf {π : Type} (x : π) : List (ErG π) := (["InvalidSize", "InvalidPlace", "DoublePlace", "InvalidMatrix", "InvalidStep", "InvalidNumber", "InvalidWord", "Conflict", "Barred", "Taken", "Wrong", "NothingToUndo", "Unreadable", "InvalidSize", "InvalidPlace", "DoublePlace", "InvalidMatrix", "InvalidStep", "InvalidNumber", "InvalidWord", "Conflict", "Barred", "Taken", "Wrong", "NothingToUndo", "Unreadable", "PostError", "PostError"] : List PySem.Str).map fun c => ⟨c, x⟩
theorem made_r (x : L2.V) : (o2 catG (o2 catG (m_by_place_r x) (m_by_name_r x)) (some [(ErG.mk "PostError" x), (ErG.mk "PostError" x)])) = some (madeOf x) := rfl
theorem made_d (x : PyData) : (o2 catG (o2 catG (m_by_place x) (m_by_name x)) (some [(ErG.mk "PostError" x), (ErG.mk "PostError" x)])) = some (madeOf x) := rfl
theorem ok_itself {P : Program} {w : World} {K : PySem.W.Frag} {mg : PySem.Str → Option Value} {base : Heap} (T : Txt mg) (L : ClsF K mg) (E_ : ErrF K mg erL) (S_ : SysF K) (C_ei : CalEK P w K mg base erL) (C_ladle : Cal P w K mg base 1 "_law_ladle" ["_law_trough_here", "_law_many"] (sp_ladle K) (fun _ => True)) (C_thing : Cal P w K mg base 5 "_law_thing" ["_law_trough_here", "_law_deep"] (sp_thing K) (fun _ => True)) (C_by_place_r : Cal P w K mg base 3 "_law_by_place" ["_law_one"] (sp_by_place_r K) (fun _ => True)) (C_by_name_r : Cal P w K mg base 3 "_law_by_name" ["_law_one"] (sp_by_name_r K) (fun _ => True)) {f : Addr} {fd : FuncData} (Fn : FnP K "_law_itself" s_itself f fd) : FnG P w K mg base CX0 6 f fd ["_law_trough_here"] (sp_itself K) := by
  obtain ⟨f_ladle, fd_ladle, G_ladle, g_ladle, kp_ladle, b_ladle, _⟩ := C_ladle.ex
  obtain ⟨f_thing, fd_thing, G_thing, g_thing, kp_thing, b_thing, _⟩ := C_thing.ex
  obtain ⟨f_by_place, fd_by_place, G_by_place, g_by_place, kp_by_place, b_by_place, _⟩ := C_by_place_r.ex
  obtain ⟨f_by_name, fd_by_name, G_by_name, g_by_name, kp_by_name, b_by_name, _⟩ := C_by_name_r.ex
  obtain ⟨fd_ei, G_ei, b_ei, kb_ei⟩ := C_ei.ex
  refine okG_of Fn sc_itself (fun vs H Q E h => MPsp0_len h) (fun cdv A outer s H vs Q E hr hgd h => ?_)
  obtain ⟨F, p_trough_here, trough_here, res, s_out, rfl, k, hm, hQ⟩ := h
  generalize hc : Act.mk H F [p_trough_here] = c at k hQ
  unfold m_itself at hm
  refine ⟨_, PSs.nox (pss_cons (ps_set (i := 1) sc_itself.nd rfl (Or.inl rfl) (pe_lst (pa_cons (pe_call G_thing (hr.mono (by decide)) (by rfl) g_thing kp_thing b_thing .nil pass0 (pa_cons (pv 0) (pa_cons pe_int pa_nil))) pa_nil))) (pss_cons (ps_set (i := 2) sc_itself.nd rfl (Or.inl rfl) (pe_ix (ix_listK K rfl) (pe_lst (pa_cons (pv 1) (pa_cons (pe_disp (pps_cons pe_str (pv 1) pps_nil) rfl rfl (by simp) (by decide)) (pa_cons (pe_tup (pa_cons (pv 1) (pa_cons pe_int pa_nil))) pa_nil)))) (pe_call G_ladle (hr.mono (by decide)) (by rfl) g_ladle kp_ladle b_ladle .nil pass0 (pa_cons (pv 0) (pa_cons pe_int pa_nil))) (fun _ _ => rfl))) (pss_cons (ps_set (i := 3) sc_itself.nd rfl (Or.inl rfl) (pe_op op_cat (pe_op op_cat (pe_call G_by_place (hr.mono (by decide)) (by rfl) g_by_place kp_by_place b_by_place .nil pass0 (pa_cons (pv 2) pa_nil)) (pe_call G_by_name (hr.mono (by decide)) (by rfl) g_by_name kp_by_name b_by_name .nil pass0 (pa_cons (pv 2) pa_nil))) (pe_lst (pa_cons (pe_ox (E_.oex _ er_PostError) (E_.ini _ er_PostError) E_.fnI G_ei (hr.mono (by decide)) b_ei rfl pass0 (by rfl) (E_.glo _ er_PostError) (pv 2)) (pa_cons (pe_oxK (E_.oex _ er_PostError) (E_.ini _ er_PostError) E_.fnI G_ei (hr.mono (by decide)) kb_ei pass0 (by rfl) (E_.glo _ er_PostError) (pv 2)) pa_nil))))) (pss_cons (ps_expr (pe_bm PySem.F.plainAttrs_list PySem.F.slot_list_append PySem.F.type_list_append mt_append (pv 1) (pa_cons pe_str pa_nil))) (pss_cons (ps_if (pt_val (pe_callB (call_isiK2 K rfl) (by rfl) T.b_isinstance (by decide +kernel) (pa_cons (pv 2) (pa_cons (pe_bltn (v := .ty "dict") (by rfl) T.b_dict (by decide +kernel) rfl) pa_nil)))) (pss_one (ps_asg pe_int (pg_sub (pv 2) pe_str (set_dict (un1 hr))))) pss_nil) (pss_one (ps_ret (pe_cmpR (op_eqDK K rfl hr.units) (pe_lc (own := [("_law_e", 4)]) (g := (gName 4)) (tt := tYes) rfl sc_itself.nd (pi_listK K rfl (pv 3)) (blkOk_by (N := N_itself) (sc := defScope s_itself) (by decide +kernel)) (fun _ _ _ _ _ => (pg_name (i := 4) sc_itself.nd rfl (Or.inl rfl))) (fun _ _ _ _ _ => pts_nil) (fun _ _ _ _ _ => (pe_callB (call_reprZ (by have z := unZ hr; exact z) hgd S_) (by rfl) T.b_repr (by decide +kernel) (pa_cons (pe_xfT K rfl (pv 4)) pa_nil)))) (pe_op op_rep (pe_lst (pa_cons (pe_callB (call_reprZ (by have z := unZ hr; exact z) hgd S_) (by rfl) T.b_repr (by decide +kernel) (pa_cons (pv 2) pa_nil)) pa_nil)) pe_int) (nomark _))))))))), ?_⟩
  show (_ : TS) _ [some (.ref p_trough_here), none, none, none, none] _
  obtain ⟨⟨inner_n, trough_here_n⟩, hx, hm⟩ := bind_some hm
  refine q_setSF (cs' := (fun trough_here => [(p_trough_here, cLst rInt trough_here)])) (sf_lst (cs := (fun trough_here => [(p_trough_here, cLst rInt trough_here)])) (s := trough_here) (sa_cons (cs := (fun trough_here => [(p_trough_here, cLst rInt trough_here)])) (s := trough_here) (sm_Mcall1 (cs := (fun trough_here => [(p_trough_here, cLst rInt trough_here)])) (s := trough_here) (cell := fun z => cLst rInt z) (i0 := 0) (j0 := 0) rfl (fun _ => rfl) (fun _ _ => rfl) (EM.sm (cs := (fun trough_here => [(p_trough_here, cLst rInt trough_here)])) (s := trough_here) em_int)) fun trough_here => (sa_nil (ra := rDz) (cs := (fun trough_here => [(p_trough_here, cLst rInt trough_here)])) (s := trough_here)))) hx k fun p_inner F H e k n_inner => ?_
  obtain ⟨inner, ez_⟩ : ∃ z, z = inner_n := ⟨_, rfl⟩; subst ez_
  obtain ⟨trough_here, ez_⟩ : ∃ z, z = trough_here_n := ⟨_, rfl⟩; subst ez_
  have k : Cov c F [(p_trough_here, cLst rInt trough_here), (p_inner, cLst rDz inner)] H := k
  show (_ : TS) _ [some (.ref p_trough_here), some (.ref p_inner), none, none, none] _
  obtain ⟨⟨q_n, trough_here_n⟩, hx, hm⟩ := bind_some hm
  obtain ⟨q, ez_⟩ : ∃ z, z = q_n := ⟨_, rfl⟩; subst ez_
  obtain ⟨val, hx3, hm⟩ := bind_some hm
  obtain ⟨inner_n, hs, hm⟩ := bind_some hm
  obtain ⟨hs, hz⟩ := appG_some hs
  obtain ⟨one, ho, hmz⟩ := bind_some hm
  have q3 : q = 0 ∨ q = 1 ∨ q = 2 := by
    unfold oneG at ho
    by_cases c0 : q = 0
    · exact .inl c0
    · rw [if_neg c0] at ho
      by_cases c1 : q = 1
      · exact .inr (.inl c1)
      · rw [if_neg c1] at ho
        by_cases c2 : q = 2
        · exact .inr (.inr c2)
        · rw [if_neg c2] at ho
          cases ho
  refine three_ok (X' := cLst rInt trough_here_n) (x := q) rfl k (fun cs F H k Q hQ => sm_Mcall1 (cs := (fun trough_here => (p_trough_here, cLst rInt trough_here) :: cs)) (s := trough_here) (cell := fun z => cLst rInt z) (i0 := 0) (j0 := 0) rfl (fun _ => rfl) (fun _ _ => rfl) (EM.sm (cs := (fun trough_here => (p_trough_here, cLst rInt trough_here) :: cs)) (s := trough_here) em_int) q trough_here_n hx c F H (Evl.Ex.refl _) k _ (fun v F2 H2 e2 k2 r2 => (show v = .int q from r2) ▸ hQ F2 H2 e2 k2)) q3 fun v_one F H p_d p_t e k n_d hpt hv => ?_
  obtain ⟨trough_here, ez_⟩ : ∃ z, z = trough_here_n := ⟨_, rfl⟩; subst ez_
  show (_ : TS) _ [some (.ref p_trough_here), some (.ref p_inner), some v_one, none, none] _
  refine q_set (ef_cat (ef_cat (em_Pcall1t (em_var (ra := rRaw) (i := 2) rfl rfl)).es (em_Pcall1t (em_var (ra := rRaw) (i := 2) rfl rfl)).es).em.es (ef_lst (ea_cons (em_oxG E_ er_PostError (em_var (ra := rRaw) (i := 2) rfl rfl)) (ea_cons (em_oxG E_ er_PostError (em_var (ra := rRaw) (i := 2) rfl rfl)) ea_nil))).em.es).em (made_r v_one) k fun v_made F H e k r_made => ?_
  have hpt := e _ _ hpt
  show (_ : TS) _ [some (.ref p_trough_here), some (.ref p_inner), some v_one, some v_made, none] _
  refine q_app (i := 1) (j := 1) rfl rfl (em_eq (m' := (some (PyData.str ("late" : PySem.Str)))) (em_mapR (ra := rStr) (g := PyData.str) dz_str em_str) rfl) hx3 hz k fun F H e k => ?_
  rw [← hs] at k
  have hpt := e _ _ hpt
  have r_made := (rLst (rExG K erL rRaw)).up e r_made
  obtain ⟨inner, ez_⟩ : ∃ z, z = inner_n := ⟨_, rfl⟩; subst ez_
  have k : Cov c F [(p_trough_here, cLst rInt trough_here), (p_inner, cLst rDz inner), (p_d, cHO (hoA p_inner) trivial)] H := k
  have one_n : c.H0 p_inner = none := n_inner
  -- the last statement
  have fin : ∀ F H, Cov c F [(p_trough_here, cLst rInt trough_here)] H → rDz.r F v_one one → (rLst (rExG K erL rRaw)).r F v_made (madeOf v_one) → tRet (tOp (rEqD K) (tLc (iList K (tVar 3)) (gName 4) tYes (tCB rReprZ (tCons (tXfT K "value" (tVar 4)) tNil)) ([("_law_e", 4)].map (·.2))) (tOp rRep (tLst (tCons (tCB rReprZ (tCons (tVar 2) tNil)) tNil)) (tC (.int 28)))) { nx := fun _ H' => Q .non H', rt := Q } [some (.ref p_trough_here), some (.ref p_inner), some v_one, some v_made, none] H := fun F H k r_one r_made => by
    have r_made := exl_dz (d := one) r_made (fun e_ he_ => by
      obtain ⟨c_, _, rfl⟩ := List.mem_map.mp he_
      exact r_one)
    obtain ⟨made_n, hx, hm⟩ := bind_some hmz
    rw [made_d] at hx
    have hx := Option.some.inj hx
    have r_made : (rLst (rExG K erL rDz)).r F v_made (madeOf one) := r_made
    rw [hx] at r_made
    obtain ⟨rv, hv, hm⟩ := bind_some hm
    have hm := Option.some.inj hm
    cases hm
    exact a_ret (em_op (vo_eqD (dq_lst dq_str) (Nat.le_of_ble_eq_true rfl)) ((ef_lc (K := K) (t := yes) (f := fun (e_ : (ErG PyData)) => (o1 reprZ (some e_.pay))) (S := (fun d F1 σ2 => ∃ v_e_, σ2 = [some (.ref p_trough_here), some (.ref p_inner), some v_one, some v_made, some v_e_] ∧ (rExG K erL rDz).r F1 v_e_ d)) (ei_list (em_var (i := 3) rfl r_made)) (gt_name (fun _ => rfl)) (fun d F1 σ2 hs => by obtain ⟨_, rfl, _⟩ := hs; rfl) (fun _ _ _ _ _ => et_yes) (by intro e_ F1 σ2 e1 hs; obtain ⟨v_e_, rfl, r_e_⟩ := hs; exact (em_cb vc_reprZ (em_valG E_ (em_var (i := 4) rfl r_e_)))))).em ((ef_rep ((ef_lst (ea_cons (em_cb vc_reprZ (em_var (i := 2) rfl r_one)) ea_nil))).em.es em_int)).em) hv k fun v F H e k r => hQ v F H (k.keepN 1) r
  have kD : PySem.W.kitOne K (.type "dict") (.type "dict") = some true := kit_ty (by show _ = some true; decide +kernel)
  have kL : PySem.W.kitOne K (.type "list") (.type "dict") = some false := kit_ty (by show _ = some false; decide +kernel)
  have kT : PySem.W.kitOne K (.type "tuple") (.type "dict") = some false := kit_ty (by show _ = some false; decide +kernel)
  obtain ⟨c1, c2, ol, c3, vs, rfl, c4⟩ := k.cell (p_inner, cLst rDz inner) (by simp)
  obtain ⟨d1, d2, od, d3, d4⟩ := k.cell (p_d, cHO (hoA p_inner) trivial) (by simp)
  cases (show od = hoA p_inner from d4)
  -- both rest from here on
  have done : ∀ {F H od} {x : Cp}, (∀ F o, x.p F o → o = od) → Cov c F [(p_trough_here, cLst rInt trough_here), (p_inner, cLst rDz inner), (p_d, x)] H → F p_t = some (.tup [.ref p_inner, .int 1]) → (rLst (rExG K erL rRaw)).r F v_made (madeOf v_one) →
      ∃ F2, Ex F F2 ∧ Cov c F2 [(p_trough_here, cLst rInt trough_here)] H ∧ F2 p_t = some (.tup [.ref p_inner, .int 1]) ∧ (rLst (rExG K erL rRaw)).r F2 v_made (madeOf v_one) ∧ rDz.r F2 (.ref p_inner) (.list inner) ∧ F2 p_d = some od := fun {F H od x} hx k ht rm => by
    obtain ⟨d1, d2, od', d3, d4⟩ := k.cell (p_d, x) (by simp)
    cases hx _ _ d4
    obtain ⟨F3, e3, k3, rz⟩ := k.frzL 1 rfl n_inner
    have k3 : Cov c F3 [(p_trough_here, cLst rInt trough_here), (p_d, x)] H := k3
    have f3 := (k3.cell (p_d, x) (by simp)).1
    have k4 := k3.frzAt 1 rfl d3 n_d
    have e4 : Ex F3 (upd F3 p_d od) := Ex.new f3
    exact ⟨_, e3.trans e4, k4, e4 _ _ (e3 _ _ ht), (rLst (rExG K erL rRaw)).up (e3.trans e4) rm, rDz.up e4 (dz_lst _ _ _ rz), upd_same⟩
  have ifd : ∀ (b : Bool) (t : Value), TyX K H v_one t → PySem.W.kitOne K t (.type "dict") = some b → ∀ {tu tw tz : TS} {D : Ends}, (b = true → tu { D with nx := tz D } [some (.ref p_trough_here), some (.ref p_inner), some v_one, some v_made, none] H) → (b = false → tw { D with nx := tz D } [some (.ref p_trough_here), some (.ref p_inner), some v_one, some v_made, none] H) →
      tSeq (tIfS (tB (tCB (rIsi K) (tCons (tVar 2) (tCons (tC (.ty "dict")) tNil)))) tu tw) tz D [some (.ref p_trough_here), some (.ref p_inner), some v_one, some v_made, none] H := fun b t ty kt {tu tw tz D} h1 h2 => by
    refine ⟨v_one, rfl, v_one, .ty "dict", t, _, b, rfl, .ty _, ty, kt, b, rfl, ?_⟩
    cases b with
    | true => exact h1 rfl
    | false => exact h2 rfl
  rcases hv with ⟨q0, ev⟩ | ⟨q0, ev⟩ | ⟨q0, ev⟩
  · subst ev
    have eo : one = .list inner := by
      unfold oneG at ho
      rw [if_pos q0] at ho
      exact (Option.some.inj ho).symm
    refine ifd false (.type "list") (.base (.lst c3)) kL (fun z => nomatch z) fun _ => ?_
    obtain ⟨F2, e2, k2, t2, m2, r2, _⟩ := done (x := cHO (hoA p_inner) trivial) (fun _ _ h => h) k hpt r_made
    exact fin F2 H k2 (eo ▸ r2) m2
  · subst ev
    have eo : one = .dict [(.str "a", .list inner), (.str "b", .int 2)] := by
      unfold oneG at ho
      rw [if_neg (by omega), if_pos q0] at ho
      exact (Option.some.inj ho).symm
    refine ifd true (.type "dict") (.base (.dK d3)) kD (fun _ => ?_) (fun z => nomatch z)
    refine ⟨_, rfl, p_d, _, rfl, DPut.k (k := kb) d3 (by rw [sizeLine_eq]; exact Nat.le_of_ble_eq_true rfl), ?_⟩
    have pk : putK [(ka, V.ref p_inner)] kb (.int 2) = [(ka, V.ref p_inner), (kb, .int 2)] := rfl
    rw [pk]
    have k2 : Cov c F [(p_trough_here, cLst rInt trough_here), (p_inner, cLst rDz inner), (p_d, cHO (hoAB p_inner) trivial)] (upd H p_d (hoAB p_inner)) := k.set (p := p_d) (x := cHO (hoA p_inner) trivial) (x' := cHO (hoAB p_inner) trivial) (o := hoAB p_inner) 2 rfl rfl
    obtain ⟨F2, e2, k2, t2, m2, r2, u2⟩ := done (x := cHO (hoAB p_inner) trivial) (fun _ _ h => h) k2 hpt r_made
    exact fin F2 _ k2 (eo ▸ Dz.dic (kvs := [(ka, V.ref p_inner), (kb, .int 2)]) (ds := [.list inner, .int 2]) u2 (.cons r2 (.cons (Dz.int 2) .nil))) m2
  · subst ev
    have eo : one = .tuple [.list inner, .int 1] := by
      unfold oneG at ho
      rw [if_neg (by omega), if_neg (by omega), if_pos q0] at ho
      exact (Option.some.inj ho).symm
    refine ifd false (.type "tuple") (.base (.tup (k.ex _ _ hpt))) kT (fun z => nomatch z) fun _ => ?_
    obtain ⟨F2, e2, k2, t2, m2, r2, _⟩ := done (x := cHO (hoA p_inner) trivial) (fun _ _ h => h) k hpt r_made
    exact fin F2 H k2 (eo ▸ Dz.tup t2 (.cons r2 (.cons (Dz.int 1) .nil))) m2
abbrev s_right : Stmt := topS 25
abbrev N_right : List PySem.Str := ["_law_trough_here", "_law_one", "_law_due", "_law_base", "_law_door"]
theorem sc_right : FnScope N_right ["_law_trough_here"] (defScope s_right) := ⟨rfl, rfl, rfl, by decide +kernel, rfl, by decide +kernel, by decide +kernel⟩
def sp_right (K : PySem.W.Frag) : Sp := (MPsp0 (fun z => cLst rInt z)  rBool m_right)
theorem ok_right {P : Program} {w : World} {K : PySem.W.Frag} {mg : PySem.Str → Option Value} {base : Heap} (T : Txt mg) (L : ClsF K mg) (E_ : ErrF K mg erL) (S_ : SysF K) (C_ei : CalEK P w K mg base erL) (C_thing : Cal P w K mg base 5 "_law_thing" ["_law_trough_here", "_law_deep"] (sp_thing K) (fun _ => True)) (C_marks : Cal P w K mg base 1 "_law_marks" ["_law_e"] (sp_marks K) (fun _ => True)) (C_by_place : Cal P w K mg base 3 "_law_by_place" ["_law_one"] (sp_by_place K) (fun _ => True)) (C_by_name : Cal P w K mg base 3 "_law_by_name" ["_law_one"] (sp_by_name K) (fun _ => True)) (C_row_right : CalG P w K mg base 2 "_law_row_right" ["_law_made", "_law_due"] (sp_row_right K) (fun _ => True)) (C_caught : CalG P w K mg base 3 "_law_caught" ["_law_one", "_law_door"] (sp_caught K) (fun _ => True)) (C_itself : CalG P w K mg base 6 "_law_itself" ["_law_trough_here"] (sp_itself K) (fun _ => True)) {f : Addr} {fd : FuncData} (Fn : FnP K "_law_right" s_right f fd) : FnG P w K mg base CX0 7 f fd ["_law_trough_here"] (sp_right K) := by
  obtain ⟨f_thing, fd_thing, G_thing, g_thing, kp_thing, b_thing, _⟩ := C_thing.ex
  obtain ⟨f_marks, fd_marks, G_marks, g_marks, kp_marks, b_marks, _⟩ := C_marks.ex
  obtain ⟨f_by_place, fd_by_place, G_by_place, g_by_place, kp_by_place, b_by_place, _⟩ := C_by_place.ex
  obtain ⟨f_by_name, fd_by_name, G_by_name, g_by_name, kp_by_name, b_by_name, _⟩ := C_by_name.ex
  obtain ⟨f_row_right, fd_row_right, G_row_right, g_row_right, kp_row_right, b_row_right, _⟩ := C_row_right.ex
  obtain ⟨f_caught, fd_caught, G_caught, g_caught, kp_caught, b_caught, _⟩ := C_caught.ex
  obtain ⟨f_itself, fd_itself, G_itself, g_itself, kp_itself, b_itself, _⟩ := C_itself.ex
  obtain ⟨fd_ei, G_ei, b_ei, kb_ei⟩ := C_ei.ex
  refine okG_of Fn sc_right (fun vs H Q E h => MPsp0_len h) (fun cdv A outer s H vs Q E hr hgd h => ?_)
  obtain ⟨F, p_trough_here, trough_here, res, s_out, rfl, k, hm, hQ⟩ := h
  generalize hc : Act.mk H F [p_trough_here] = c at k hQ
  unfold m_right at hm
  refine ⟨_, PSs.nox (pss_cons (ps_set (i := 1) sc_right.nd rfl (Or.inr rfl) (pe_call G_thing (hr.mono (by decide)) (by rfl) g_thing kp_thing b_thing .nil pass0 (pa_cons (pv 0) (pa_cons pe_int pa_nil)))) (pss_cons (ps_set (i := 2) sc_right.nd rfl (Or.inl rfl) (pe_callB (call_reprZ (by have z := unZ hr; exact z) hgd S_) (by rfl) T.b_repr (by decide +kernel) (pa_cons (pv 1) pa_nil))) (pss_cons (ps_if (PW.pt (pw_or (pt_not (pt_val (pe_callG hgd  G_row_right (hr.mono (by decide)) (by rfl) g_row_right kp_row_right b_row_right .nil pass0 (pa_cons (pe_call G_by_place (hr.mono (by decide)) (by rfl) g_by_place kp_by_place b_by_place .nil pass0 (pa_cons (pv 1) pa_nil)) (pa_cons (pv 2) pa_nil))))) (pw_or1 (pt_not (pt_val (pe_callG hgd  G_row_right (hr.mono (by decide)) (by rfl) g_row_right kp_row_right b_row_right .nil pass0 (pa_cons (pe_call G_by_name (hr.mono (by decide)) (by rfl) g_by_name kp_by_name b_by_name .nil pass0 (pa_cons (pv 1) pa_nil)) (pa_cons (pv 2) pa_nil)))))))) (pss_one (ps_ret pe_bl)) pss_nil) (pss_cons (ps_for PassesOwn.never rfl (pi_listK K rfl (pe_lst (pa_cons (pe_ox (E_.oex _ er_PostError) (E_.ini _ er_PostError) E_.fnI G_ei (hr.mono (by decide)) b_ei rfl pass0 (by rfl) (E_.glo _ er_PostError) (pv 1)) (pa_cons (pe_oxK (E_.oex _ er_PostError) (E_.ini _ er_PostError) E_.fnI G_ei (hr.mono (by decide)) kb_ei pass0 (by rfl) (E_.glo _ er_PostError) (pv 1)) pa_nil)))) (pg_name (i := 3) sc_right.nd rfl (Or.inl rfl)) (pss_one (ps_if (PW.pt (pw_or (pt_cmpR (op_inDK K rfl (un65 hr)) pe_bl (pe_call G_marks (hr.mono (by decide)) (by rfl) g_marks kp_marks b_marks .nil pass0 (pa_cons (pv 3) pa_nil)) rfl) (pw_or (pt_not (pt_val (pe_callB (call_isX K rfl) (by rfl) T.b_isinstance (by decide +kernel) (pa_cons (pv 3) (pa_cons (pe_bltn (v := .ty "ValueError") (by rfl) T.b_ValueError (by decide +kernel) rfl) pa_nil))))) (pw_or1 (pt_cmpR op_ne (pe_callB (call_reprZ (by have z := unZ hr; exact z) hgd S_) (by rfl) T.b_repr (by decide +kernel) (pa_cons (pe_xfT K rfl (pv 3)) pa_nil)) (pv 2) (nomark _)))))) (pss_one (ps_ret pe_bl)) pss_nil))) (pss_cons (ps_if (PW.pt (pw_or (pt_cmpR (op_neDK K rfl hr.units) (pe_lc (own := [("_law_door", 4)]) (g := (gName 4)) (tt := tYes) rfl sc_right.nd (pi_range1 (by rfl) T.b_range (pa_cons pe_int pa_nil)) (blkOk_by (N := N_right) (sc := defScope s_right) (by decide +kernel)) (fun _ _ _ _ _ => (pg_name (i := 4) sc_right.nd rfl (Or.inl rfl))) (fun _ _ _ _ _ => pts_nil) (fun _ _ _ _ _ => (pe_callG hgd  G_caught (hr.mono (by decide)) (by rfl) g_caught kp_caught b_caught .nil pass0 (pa_cons (pv 1) (pa_cons (pv 4) pa_nil))))) (pe_op op_rep (pe_lst (pa_cons (pv 2) pa_nil)) pe_int) (nomark _)) (pw_or1 (pt_cmpR op_ne (pe_callB (call_reprZ (by have z := unZ hr; exact z) hgd S_) (by rfl) T.b_repr (by decide +kernel) (pa_cons (pv 1) pa_nil)) (pv 2) (nomark _))))) (pss_one (ps_ret pe_bl)) pss_nil) (pss_one (ps_ret (pe_callG hgd  G_itself (hr.mono (by decide)) (by rfl) g_itself kp_itself b_itself .nil pass0 (pa_cons (pv 0) pa_nil))))))))), ?_⟩
  show (_ : TS) _ [some (.ref p_trough_here), none, none, none, none] _
  obtain ⟨⟨one_n, trough_here_n⟩, hx, hm⟩ := bind_some hm
  refine q_setS (cs' := (fun trough_here => [(p_trough_here, cLst rInt trough_here)])) (sm_Mcall1 (cs := (fun trough_here => [(p_trough_here, cLst rInt trough_here)])) (s := trough_here) (cell := fun z => cLst rInt z) (i0 := 0) (j0 := 0) rfl (fun _ => rfl) (fun _ _ => rfl) (EM.sm (cs := (fun trough_here => [(p_trough_here, cLst rInt trough_here)])) (s := trough_here) em_int)) hx k fun v_one F H e k r_one => ?_
  obtain ⟨one, ez_⟩ : ∃ z, z = one_n := ⟨_, rfl⟩; subst ez_
  obtain ⟨trough_here, ez_⟩ : ∃ z, z = trough_here_n := ⟨_, rfl⟩; subst ez_
  have k : Cov c F [(p_trough_here, cLst rInt trough_here)] H := k
  show (_ : TS) _ [some (.ref p_trough_here), some v_one, none, none, none] _
  obtain ⟨due_n, hx, hm⟩ := bind_some hm
  refine q_set (em_cb vc_reprZ (em_var (i := 1) rfl r_one)) hx k fun v_due F H e k r_due => ?_
  obtain ⟨due, ez_⟩ : ∃ z, z = due_n := ⟨_, rfl⟩; subst ez_
  show (_ : TS) _ [some (.ref p_trough_here), some v_one, some v_due, none, none] _
  have r_one := rDz.up e r_one
  obtain ⟨b, hb, hm⟩ := bind_some hm
  refine q_ife (et_or (et_not (et_B (em_Pcall2 (em_Pcall1t (em_var (i := 1) rfl r_one)) (em_varf (i := 2) fl_str rfl r_due)))) (et_not (et_B (em_Pcall2 (em_Pcall1t (em_var (i := 1) rfl r_one)) (em_varf (i := 2) fl_str rfl r_due))))) hb k (fun eb F H e k => ?_) (fun eb F H e k => ?_)
  ·
    subst eb
    have hm := hT hm
    have r_one := rDz.up e r_one
    obtain ⟨rv, hv, hm⟩ := bind_some hm
    have hm := Option.some.inj hm
    cases hm
    exact a_ret em_bl hv k fun v F H e k r => hQ v F H (k.keepN 1) r
  ·
    subst eb
    have hm := hF hm
    have r_one := rDz.up e r_one
    obtain ⟨l_, hl, hm⟩ := bind_some hm
    obtain ⟨out1, hf, hm⟩ := bind_some hm
    have hm1 := hm
    refine sq ?_
    refine a_loop (ei_list ((ef_lst (ea_cons (em_oxG E_ er_PostError (em_var (i := 1) rfl r_one)) (ea_cons (em_oxG E_ er_PostError (em_var (i := 1) rfl r_one)) ea_nil)))).em) hl k hf fun F H e k => ⟨fun g σ1 F1 H1 => ∃ w_base_, σ1 = [some (.ref p_trough_here), some v_one, some v_due, w_base_, none] ∧ Ex F F1 ∧ Cov c F1 [(p_trough_here, cLst rInt trough_here)] H1, fun g => [(p_trough_here, cLst rInt trough_here)], ?_, ?_, ?_, ?_⟩
    · exact ⟨_, rfl, Evl.Ex.refl _, k⟩
    · rintro g σ1 F1 H1 ⟨_, rfl, e1, k1⟩
      exact ⟨e1, k1⟩
    · rintro d v ⟨⟩ oo1 σ1 F1 H1 F H ⟨w_base_, rfl, eL3, _⟩ e1 k rd hm hret1 hbrk1
      have eL3 := eL3.trans e1
      have r_one := rDz.up (e.trans eL3) r_one
      obtain ⟨base_, ez_⟩ : ∃ z, z = d := ⟨_, rfl⟩; subst ez_
      obtain ⟨v_base_, ez_⟩ : ∃ z, z = v := ⟨_, rfl⟩; subst ez_
      have r_base_ := rd
      refine gn (σ1 := [some (.ref p_trough_here), some v_one, some v_due, some v_base_, none]) rfl ?_
      obtain ⟨b, hb, hm⟩ := bind_some hm
      refine a_if (et_or (et_test (em_inD dq_bool (Nat.le_of_ble_eq_true rfl) em_bl ((em_Pcall1t (em_var (i := 3) rfl r_base_))).el)) (et_or (et_not (et_B (em_isXVG E_ (em_var (i := 3) rfl r_base_)))) (et_test (em_op vo_neS (em_cb vc_reprZ (em_valG E_ (em_var (i := 3) rfl r_base_))) (em_varf (i := 2) fl_str rfl r_due))))) hb k (fun eb F H e k => ?_) (fun eb F H e k => ?_)
      ·
        subst eb
        have hm := hT hm
        have r_one := rDz.up e r_one
        have r_base_ := (rExG K erL rDz).up e r_base_
        have eL3 := eL3.trans e
        obtain ⟨rv, hv, hm⟩ := bind_some hm
        have hm := Option.some.inj hm
        subst hm
        have ho1 := hret1 _ rfl
        rw [ho1] at hm1
        have hm := Option.some.inj hm1
        cases hm
        exact a_ret em_bl hv k fun v F H e k r => hQ v F H (k.keepN 1) r
      ·
        subst eb
        have hm := hF hm
        have r_one := rDz.up e r_one
        have r_base_ := (rExG K erL rDz).up e r_base_
        have eL3 := eL3.trans e
        show Ends.nx _ _ _
        have hm := Option.some.inj hm
        subst hm
        exact ⟨F, _, rfl, _, rfl, eL3, k⟩
    rintro ⟨⟩ σ1 F H eo ⟨w_base_, rfl, e1, k⟩
    subst eo
    have r_one := rDz.up (e.trans e1) r_one
    refine nxh ?_
    obtain ⟨b, hb, hm⟩ := bind_some hm
    refine q_ife (b := b) (et_or (et_test (em_op (vo_neD (dq_lst dq_str) (Nat.le_of_ble_eq_true rfl)) ((ef_lc (K := K) (t := yes) (f := fun (door : Int) => (m_caught one door)) (S := (fun d F1 σ2 => ∃ v_door, σ2 = [some (.ref p_trough_here), some v_one, some v_due, w_base_, some v_door] ∧ rInt.r F1 v_door d)) (ei_rng1 em_int) (gt_name (fun _ => rfl)) (fun d F1 σ2 hs => by obtain ⟨_, rfl, _⟩ := hs; rfl) (fun _ _ _ _ _ => et_yes) (by intro door F1 σ2 e1 hs; obtain ⟨v_door, rfl, r_door⟩ := hs; have r_one := rDz.up e1 r_one; exact (em_Pcall2t (em_var (i := 1) rfl r_one) (em_varf (i := 4) fl_int rfl r_door))))).em ((ef_rep ((ef_lst (ea_cons (em_varf (i := 2) fl_str rfl r_due) ea_nil))).em.es em_int)).em)) (et_test (em_op vo_neS (em_cb vc_reprZ (em_var (i := 1) rfl r_one)) (em_varf (i := 2) fl_str rfl r_due)))) ?_ k (fun eb F H e k => ?_) (fun eb F H e k => ?_)
    · exact hb
    ·
      subst eb
      have hm := hT hm
      have r_one := rDz.up e r_one
      obtain ⟨rv, hv, hm⟩ := bind_some hm
      have hm := Option.some.inj hm
      cases hm
      exact a_ret em_bl hv k fun v F H e k r => hQ v F H (k.keepN 1) r
    ·
      subst eb
      have hm := hF hm
      have r_one := rDz.up e r_one
      have hv := hm
      have hm : True := trivial
      cases hm
      exact a_retS (cs' := (fun trough_here => [(p_trough_here, cLst rInt trough_here)])) (sm_Mcall0 (cs := (fun trough_here => [(p_trough_here, cLst rInt trough_here)])) (s := trough_here) (cell := fun z => cLst rInt z) (i0 := 0) (j0 := 0) rfl (fun _ => rfl) (fun _ _ => rfl) ) hv k fun v F H e k r => hQ v F H (k.keepN 1) r
abbrev s_law : Stmt := topS 26
abbrev N_law : List PySem.Str := ["_law_script", "_law_cells", "_law_k"]
theorem sc_law : FnScope N_law ["_law_script"] (defScope s_law) := ⟨rfl, rfl, rfl, by decide +kernel, rfl, by decide +kernel, by decide +kernel⟩
def sp_law (K : PySem.W.Frag) : Sp := (Psp1 (rLsW K rInt) rBool m_law)
theorem ok_law {P : Program} {w : World} {K : PySem.W.Frag} {mg : PySem.Str → Option Value} {base : Heap} (T : Txt mg) (L : ClsF K mg) (E_ : ErrF K mg erL) (S_ : SysF K) (C_trough : Cal P w K mg base 1 "_law_trough" ["_law_cell", "_law_k"] (sp_trough K) (fun _ => True)) (C_right : CalG P w K mg base 7 "_law_right" ["_law_trough_here"] (sp_right K) (fun _ => True)) {f : Addr} {fd : FuncData} (Fn : FnP K "law" s_law f fd) : FnG P w K mg base CX0 8 f fd ["_law_script"] (sp_law K) := by
  obtain ⟨f_trough, fd_trough, G_trough, g_trough, kp_trough, b_trough, _⟩ := C_trough.ex
  obtain ⟨f_right, fd_right, G_right, g_right, kp_right, b_right, _⟩ := C_right.ex
  refine okG_of Fn sc_law (fun vs H Q E h => Psp1_len h) (fun cdv A outer s H vs Q E hr hgd h => ?_)
  obtain ⟨F, v_script, script, res, rfl, ex, r_script, hm, hQ⟩ := h
  have k := Cov.init ex
  generalize hc : Act.mk H F [] = c at k hQ
  unfold m_law at hm
  refine ⟨_, PSs.nox (pss_cons (ps_set (i := 1) sc_law.nd rfl (Or.inl rfl) (pe_op op_cat (pe_slice (sl_listK K rfl) (pv 0) po_none (po_some pe_int)) (pe_op op_rep (pe_lst (pa_cons pe_int pa_nil)) (pe_callTy call_int1 (by rfl) T.b_int (by decide +kernel) (pa_cons (pe_cmpR (op_eqDK K rfl hr.units) (pv 0) (pe_lst pa_nil) (nomark _)) pa_nil))))) (pss_cons (ps_for PassesOwn.never rfl (pi_range1 (by rfl) T.b_range (pa_cons (pe_callB (call_len_seqK K rfl) (by rfl) T.b_len PySem.boot_len (pa_cons (pv 1) pa_nil)) pa_nil)) (pg_name (i := 2) sc_law.nd rfl (Or.inl rfl)) (pss_one (ps_if (pt_not (pt_val (pe_callG hgd  G_right (hr.mono (by decide)) (by rfl) g_right kp_right b_right .nil pass0 (pa_cons (pe_call G_trough (hr.mono (by decide)) (by rfl) g_trough kp_trough b_trough .nil pass0 (pa_cons (pe_ix (ix_listK K rfl) (pv 1) (pv 2) (fun _ _ => rfl)) (pa_cons (pv 2) pa_nil))) pa_nil)))) (pss_one (ps_ret pe_bl)) pss_nil))) (pss_one (ps_ret pe_bl)))), ?_⟩
  show (_ : TS) _ [some v_script, none, none] _
  obtain ⟨cells_n, hx, hm⟩ := bind_some hm
  refine q_set ((ef_cat ((ef_slice ((em_var (i := 0) rfl r_script)).elw eo_none (eo_some em_int))).em.es ((ef_rep ((ef_lst (ea_cons em_int ea_nil))).em.es (em_cb vc_intB (em_op (vo_eqD (dq_lsW dq_int) (Nat.le_of_ble_eq_true rfl)) (em_var (i := 0) rfl r_script) (em_weak ((ef_lst (ra := rInt) ea_nil)).em))))).em.es)).em hx k fun v_cells F H e k r_cells => ?_
  obtain ⟨cells, ez_⟩ : ∃ z, z = cells_n := ⟨_, rfl⟩; subst ez_
  show (_ : TS) _ [some v_script, some v_cells, none] _
  have r_script := (rLsW K rInt).up e r_script
  obtain ⟨l_, hl, hm⟩ := bind_some hm
  obtain ⟨out1, hf, hm⟩ := bind_some hm
  have hm1 := hm
  refine sq ?_
  refine a_loop (ei_rng1 (el_len ((em_var (i := 1) rfl r_cells)).el)) hl k hf fun F H e k => ⟨fun g σ1 F1 H1 => ∃ w_k_, σ1 = [some v_script, some v_cells, w_k_] ∧ Ex F F1 ∧ Cov c F1 [] H1, fun g => [], ?_, ?_, ?_, ?_⟩
  · exact ⟨_, rfl, Evl.Ex.refl _, k⟩
  · rintro g σ1 F1 H1 ⟨_, rfl, e1, k1⟩
    exact ⟨e1, k1⟩
  · rintro d v ⟨⟩ oo1 σ1 F1 H1 F H ⟨w_k_, rfl, eL4, _⟩ e1 k rd hm hret1 hbrk1
    have eL4 := eL4.trans e1
    have r_script := (rLsW K rInt).up (e.trans eL4) r_script
    have r_cells := (rLst rInt).up (e.trans eL4) r_cells
    obtain ⟨k_, ez_⟩ : ∃ z, z = d := ⟨_, rfl⟩; subst ez_
    obtain ⟨v_k_, ez_⟩ : ∃ z, z = v := ⟨_, rfl⟩; subst ez_
    have r_k_ := rd
    refine gn (σ1 := [some v_script, some v_cells, some v_k_]) rfl ?_
    obtain ⟨b, hb, hm⟩ := bind_some hm
    refine a_if (et_not (et_B (em_Tcall0 (em_Fcall2 (el_ix ((em_var (i := 1) rfl r_cells)).el (em_varf (i := 2) fl_int rfl r_k_)) (em_varf (i := 2) fl_int rfl r_k_)) ))) hb k (fun eb F H e k => ?_) (fun eb F H e k => ?_)
    ·
      subst eb
      have hm := hT hm
      have r_script := (rLsW K rInt).up e r_script
      have r_cells := (rLst rInt).up e r_cells
      have eL4 := eL4.trans e
      obtain ⟨rv, hv, hm⟩ := bind_some hm
      have hm := Option.some.inj hm
      subst hm
      have ho1 := hret1 _ rfl
      rw [ho1] at hm1
      have hm := Option.some.inj hm1
      cases hm
      exact a_ret em_bl hv k fun v F H e k r => hQ v F H k.dropAll r
    ·
      subst eb
      have hm := hF hm
      have r_script := (rLsW K rInt).up e r_script
      have r_cells := (rLst rInt).up e r_cells
      have eL4 := eL4.trans e
      show Ends.nx _ _ _
      have hm := Option.some.inj hm
      subst hm
      exact ⟨F, _, rfl, _, rfl, eL4, k⟩
  rintro ⟨⟩ σ1 F H eo ⟨w_k_, rfl, e1, k⟩
  subst eo
  have r_script := (rLsW K rInt).up (e.trans e1) r_script
  have r_cells := (rLst rInt).up (e.trans e1) r_cells
  refine nxh ?_
  obtain ⟨rv, hv, hm⟩ := bind_some hm
  have hm := Option.some.inj hm
  cases hm
  exact a_ret em_bl hv k fun v F H e k r => hQ v F H k.dropAll r
theorem law_end {K : PySem.W.Frag} (hp : ∀ s : List Int, s.length ≤ 63 → m_law s = some true) (H : Hp) (a : Addr) (ns : List Int) (hl : ns.length ≤ 63) (hS : SqL K H a (ns.map V.int)) : sp_law K [.ref a] H (fun v H2 => v = .bl true) (fun _ _ _ => False) :=
  ⟨H, .ref a, ns, true, rfl, Evl.Ex.refl H, ⟨a, ns.map V.int, rfl, hS, int_rs⟩, hp ns hl, fun v F2 H2 k r => r⟩
end Wk

set_option maxHeartbeats 0
namespace Wk
open PySem PySem.Spec PyProof.Rows L2 Mw Mi
def d_trough : Hm.DefM := ⟨fun K => He.ga K "_law_trough", "_law_trough", "_law_trough", defArgs s_trough, defBody s_trough, defScope s_trough⟩
def d_ladle : Hm.DefM := ⟨fun K => He.ga K "_law_ladle", "_law_ladle", "_law_ladle", defArgs s_ladle, defBody s_ladle, defScope s_ladle⟩
def d_thing_0 : Hm.DefM := ⟨fun K => He.ga K "_law_thing", "_law_thing", "_law_thing", defArgs s_thing_0, defBody s_thing_0, defScope s_thing_0⟩
def d_thing_1 : Hm.DefM := ⟨fun K => He.ga K "_law_thing", "_law_thing", "_law_thing", defArgs s_thing_1, defBody s_thing_1, defScope s_thing_1⟩
def d_thing_2 : Hm.DefM := ⟨fun K => He.ga K "_law_thing", "_law_thing", "_law_thing", defArgs s_thing_2, defBody s_thing_2, defScope s_thing_2⟩
def d_thing : Hm.DefM := ⟨fun K => He.ga K "_law_thing", "_law_thing", "_law_thing", defArgs s_thing, defBody s_thing, defScope s_thing⟩
def d_marks : Hm.DefM := ⟨fun K => He.ga K "_law_marks", "_law_marks", "_law_marks", defArgs s_marks, defBody s_marks, defScope s_marks⟩
def d_by_place : Hm.DefM := ⟨fun K => He.ga K "_law_by_place", "_law_by_place", "_law_by_place", defArgs s_by_place, defBody s_by_place, defScope s_by_place⟩
def d_by_place_r : Hm.DefM := ⟨fun K => He.ga K "_law_by_place", "_law_by_place", "_law_by_place", defArgs s_by_place_r, defBody s_by_place_r, defScope s_by_place_r⟩
def d_by_name : Hm.DefM := ⟨fun K => He.ga K "_law_by_name", "_law_by_name", "_law_by_name", defArgs s_by_name, defBody s_by_name, defScope s_by_name⟩
def d_by_name_r : Hm.DefM := ⟨fun K => He.ga K "_law_by_name", "_law_by_name", "_law_by_name", defArgs s_by_name_r, defBody s_by_name_r, defScope s_by_name_r⟩
def d_row_right : Hm.DefM := ⟨fun K => He.ga K "_law_row_right", "_law_row_right", "_law_row_right", defArgs s_row_right, defBody s_row_right, defScope s_row_right⟩
def d_caught : Hm.DefM := ⟨fun K => He.ga K "_law_caught", "_law_caught", "_law_caught", defArgs s_caught, defBody s_caught, defScope s_caught⟩
def d_itself : Hm.DefM := ⟨fun K => He.ga K "_law_itself", "_law_itself", "_law_itself", defArgs s_itself, defBody s_itself, defScope s_itself⟩
def d_right : Hm.DefM := ⟨fun K => He.ga K "_law_right", "_law_right", "_law_right", defArgs s_right, defBody s_right, defScope s_right⟩
def d_law : Hm.DefM := ⟨fun K => He.ga K "law", "law", "law", defArgs s_law, defBody s_law, defScope s_law⟩
def d_ei : Hm.DefM := ⟨fun K => eiA K, "__init__", "PostError.__init__", defArgs s_ei, defBody s_ei, defScope s_ei⟩
def fnL : List Hm.DefV := [(d_trough, []), (d_ladle, []), (d_thing_0, []), (d_thing_1, []), (d_thing_2, []), (d_thing, []), (d_marks, []), (d_by_place, []), (d_by_place_r, []), (d_by_name, []), (d_by_name_r, []), (d_row_right, []), (d_caught, []), (d_itself, []), (d_right, []), (d_law, []), (d_ei, [])]
def faL : List Hm.Fc := [(Hm.fa (.glo "_law_trough")), (Hm.fa (.glo "_law_ladle")), (Hm.fa (.glo "_law_thing")), (Hm.fa (.glo "_law_marks")), (Hm.fa (.glo "_law_by_place")), (Hm.fa (.glo "_law_by_name")), (Hm.fa (.glo "_law_row_right")), (Hm.fa (.glo "_law_caught")), (Hm.fa (.glo "_law_itself")), (Hm.fa (.glo "_law_right")), (Hm.fa (.glo "law")), (Hm.fa (.free "ValueError")), (Hm.fa (.free "int")), (Hm.fa (.free "isinstance")), (Hm.fa (.free "len")), (Hm.fa (.free "max")), (Hm.fa (.free "range")), (Hm.fa (.free "repr")), (Hm.fa (.free "tuple")), (Mw.errB erL), (Mw.sysB), (Hm.fa (.free "dict"))]
abbrev RX : PySem.W.OpenRow := PySem.W.OpenLaw.row PySem.Challenge.rw_seenposts_k00_errors_keep_their_value
def asX : List Addr := [3, 6, 4, 31, 44, 56, 68, 80, 92, 104, 116, 128, 140, 152, 164, 176, 188, 197, 204, 209, 216, 223, 230, 235, 242, 247, 252, 259, 0, 30, 43, 55, 67, 79, 91, 103, 115, 127, 139, 151, 163, 175, 187, 196, 203, 208, 215, 222, 229, 234, 241, 246, 251, 258, 28, 29, 32, 42, 54, 66, 78, 90, 102, 114, 126, 138, 150, 162, 174, 186, 191, 192, 193, 194, 195, 198, 199, 200, 201, 202, 205, 206, 207, 210, 211, 212, 213, 214, 217, 218, 219, 220, 221, 224, 225, 226, 227, 228, 231, 232, 233, 236, 237, 238, 239, 240, 243, 244, 245, 248, 249, 250, 253, 254, 255, 256, 257, 27, 22, 23, 24, 25, 26, 1]
abbrev hkX : PySem.W.Hook := Hm.hookV asX faL fnL
def obX (s : PySem.W.SharedT) : He.AlD := Hm.obsVG asX faL fnL (HandSHeadRun.getT s)
theorem obX_eq (s : PySem.W.SharedT) : obX s = hkX.obs s.abs := Hm.obsVG_eq (HandSHeadRun.getT_eq s)
theorem runX (w : World) : HandSHeadRun.RunEq RX (PySem.W.view RX.prog [26]) hkX obX 20000 ["PostError", "InvalidSize", "InvalidPlace", "DoublePlace", "InvalidMatrix", "InvalidStep", "InvalidNumber", "InvalidWord", "Conflict", "Barred", "Taken", "Wrong", "NothingToUndo", "Unreadable", "_law_trough", "_law_ladle", "_law_thing", "_law_marks", "_law_by_place", "_law_by_name", "_law_row_right", "_law_caught", "_law_itself", "_law_right"] w := by
  intro os
  kernel_rfl
theorem factsX {P : Program} {w : World} {K : PySem.W.Frag} {h : Heap} {mg : PySem.Str → Option Value} {f : Addr} (X : K.In h) (G : h.Ns mainGlobals mg) (hfa : mg ("law" : PySem.Str) = some (.ref f)) (c : Hm.SaysV faL fnL K) :
    ∃ fd : FuncData, (∀ (s : Shared) (v : Value), BindsTo s fd ⟨[v], []⟩ [("_law_script", v)]) ∧ ∀ base : Heap, K.In base → base.Ns mainGlobals mg → FnG P w K mg base CX0 8 f fd ["_law_script"] (sp_law K) := by
  obtain ⟨fd_0, F_0⟩ := c.def_ 0 (d := d_trough) rfl
  obtain ⟨fd_1, F_1⟩ := c.def_ 1 (d := d_ladle) rfl
  obtain ⟨fd_2, F_2⟩ := c.def_ 2 (d := d_thing_0) rfl
  obtain ⟨fd_3, F_3⟩ := c.def_ 3 (d := d_thing_1) rfl
  obtain ⟨fd_4, F_4⟩ := c.def_ 4 (d := d_thing_2) rfl
  obtain ⟨fd_5, F_5⟩ := c.def_ 5 (d := d_thing) rfl
  obtain ⟨fd_6, F_6⟩ := c.def_ 6 (d := d_marks) rfl
  obtain ⟨fd_7, F_7⟩ := c.def_ 7 (d := d_by_place) rfl
  obtain ⟨fd_8, F_8⟩ := c.def_ 8 (d := d_by_place_r) rfl
  obtain ⟨fd_9, F_9⟩ := c.def_ 9 (d := d_by_name) rfl
  obtain ⟨fd_10, F_10⟩ := c.def_ 10 (d := d_by_name_r) rfl
  obtain ⟨fd_11, F_11⟩ := c.def_ 11 (d := d_row_right) rfl
  obtain ⟨fd_12, F_12⟩ := c.def_ 12 (d := d_caught) rfl
  obtain ⟨fd_13, F_13⟩ := c.def_ 13 (d := d_itself) rfl
  obtain ⟨fd_14, F_14⟩ := c.def_ 14 (d := d_right) rfl
  obtain ⟨fd_15, F_15⟩ := c.def_ 15 (d := d_law) rfl
  have T : Txt mg := ⟨He.free_ok X G (c.fact 21 (f := (Hm.fa (.free "dict"))) rfl), He.free_ok X G (c.fact 11 (f := (Hm.fa (.free "ValueError"))) rfl), He.free_ok X G (c.fact 12 (f := (Hm.fa (.free "int"))) rfl), He.free_ok X G (c.fact 13 (f := (Hm.fa (.free "isinstance"))) rfl), He.free_ok X G (c.fact 14 (f := (Hm.fa (.free "len"))) rfl), He.free_ok X G (c.fact 15 (f := (Hm.fa (.free "max"))) rfl), He.free_ok X G (c.fact 16 (f := (Hm.fa (.free "range"))) rfl), He.free_ok X G (c.fact 17 (f := (Hm.fa (.free "repr"))) rfl), He.free_ok X G (c.fact 18 (f := (Hm.fa (.free "tuple"))) rfl)⟩
  have E_ : ErrF K mg erL := errB_ok X G (c.fact 19 (f := (Mw.errB erL)) rfl)
  have S_ : SysF K := sysB_ok (c.fact 20 (f := (Mw.sysB)) rfl)
  obtain ⟨fd_ei, F_ei⟩ := c.def_ 16 (d := d_ei) rfl
  have L : ClsF K mg := ⟨trivial⟩
  have e := hfa.symm.trans (He.glo_ok X G (c.fact 10 (f := (Hm.fa (.glo "law"))) rfl))
  cases e
  have b := FunD.bindsA (ps := ["_law_script"]) F_15 fun _ _ _ _ _ _ us hl => match us, hl with | [_], _ => rfl
  refine ⟨fd_15, fun s v => b s [v] rfl, fun base hb hb2 => ?_⟩
  have C_ei : CalEK P w K mg base erL := ⟨_, ok_ei E_ F_ei, F_ei.bindsN (fun _ _ _ _ _ _ us hl => match us, hl with | [_, _], _ => rfl), kbN F_ei (fun r1 r2 => r1.append r2) (fun _ _ _ _ _ _ us ws h1 h2 => match us, h1, ws, h2 with | [_], _, [_], _ => rfl)⟩
  have C_trough : Cal P w K mg base 1 "_law_trough" ["_law_cell", "_law_k"] (sp_trough K) (fun _ => True) := ⟨_, _, ok_trough T L E_ S_  F_0, He.glo_ok X G (c.fact 0 (f := (Hm.fa (.glo "_law_trough"))) rfl), F_0.kp, F_0.bindsN (fun _ _ _ _ _ _ us hl => match us, hl with | [_, _], _ => rfl), trivial⟩
  have C_ladle : Cal P w K mg base 1 "_law_ladle" ["_law_trough_here", "_law_many"] (sp_ladle K) (fun _ => True) := ⟨_, _, ok_ladle T L E_ S_  F_1, He.glo_ok X G (c.fact 1 (f := (Hm.fa (.glo "_law_ladle"))) rfl), F_1.kp, F_1.bindsN (fun _ _ _ _ _ _ us hl => match us, hl with | [_, _], _ => rfl), trivial⟩
  have C_thing_0 : Cal P w K mg base 2 "_law_thing" ["_law_trough_here", "_law_deep"] (sp_thing_0 K) (fun _ => True) := ⟨_, _, ok_thing_0 T L E_ S_ C_ladle F_2, He.glo_ok X G (c.fact 2 (f := (Hm.fa (.glo "_law_thing"))) rfl), F_2.kp, F_2.bindsN (fun _ _ _ _ _ _ us hl => match us, hl with | [_, _], _ => rfl), trivial⟩
  have C_thing_1 : Cal P w K mg base 3 "_law_thing" ["_law_trough_here", "_law_deep"] (sp_thing_1 K) (fun _ => True) := ⟨_, _, ok_thing_1 T L E_ S_ C_ladle C_thing_0 F_3, He.glo_ok X G (c.fact 2 (f := (Hm.fa (.glo "_law_thing"))) rfl), F_3.kp, F_3.bindsN (fun _ _ _ _ _ _ us hl => match us, hl with | [_, _], _ => rfl), trivial⟩
  have C_thing_2 : Cal P w K mg base 4 "_law_thing" ["_law_trough_here", "_law_deep"] (sp_thing_2 K) (fun _ => True) := ⟨_, _, ok_thing_2 T L E_ S_ C_ladle C_thing_1 F_4, He.glo_ok X G (c.fact 2 (f := (Hm.fa (.glo "_law_thing"))) rfl), F_4.kp, F_4.bindsN (fun _ _ _ _ _ _ us hl => match us, hl with | [_, _], _ => rfl), trivial⟩
  have C_thing : Cal P w K mg base 5 "_law_thing" ["_law_trough_here", "_law_deep"] (sp_thing K) (fun _ => True) := ⟨_, _, ok_thing T L E_ S_ C_ladle C_thing_2 F_5, He.glo_ok X G (c.fact 2 (f := (Hm.fa (.glo "_law_thing"))) rfl), F_5.kp, F_5.bindsN (fun _ _ _ _ _ _ us hl => match us, hl with | [_, _], _ => rfl), trivial⟩
  have C_marks : Cal P w K mg base 1 "_law_marks" ["_law_e"] (sp_marks K) (fun _ => True) := ⟨_, _, ok_marks T L E_ S_  F_6, He.glo_ok X G (c.fact 3 (f := (Hm.fa (.glo "_law_marks"))) rfl), F_6.kp, F_6.bindsN (fun _ _ _ _ _ _ us hl => match us, hl with | [_], _ => rfl), trivial⟩
  have C_by_place : Cal P w K mg base 3 "_law_by_place" ["_law_one"] (sp_by_place K) (fun _ => True) := ⟨_, _, ok_by_place T L E_ S_ C_ei  F_7, He.glo_ok X G (c.fact 4 (f := (Hm.fa (.glo "_law_by_place"))) rfl), F_7.kp, F_7.bindsN (fun _ _ _ _ _ _ us hl => match us, hl with | [_], _ => rfl), trivial⟩
  have C_by_place_r : Cal P w K mg base 3 "_law_by_place" ["_law_one"] (sp_by_place_r K) (fun _ => True) := ⟨_, _, ok_by_place_r T L E_ S_ C_ei  F_8, He.glo_ok X G (c.fact 4 (f := (Hm.fa (.glo "_law_by_place"))) rfl), F_8.kp, F_8.bindsN (fun _ _ _ _ _ _ us hl => match us, hl with | [_], _ => rfl), trivial⟩
  have C_by_name : Cal P w K mg base 3 "_law_by_name" ["_law_one"] (sp_by_name K) (fun _ => True) := ⟨_, _, ok_by_name T L E_ S_ C_ei  F_9, He.glo_ok X G (c.fact 5 (f := (Hm.fa (.glo "_law_by_name"))) rfl), F_9.kp, F_9.bindsN (fun _ _ _ _ _ _ us hl => match us, hl with | [_], _ => rfl), trivial⟩
  have C_by_name_r : Cal P w K mg base 3 "_law_by_name" ["_law_one"] (sp_by_name_r K) (fun _ => True) := ⟨_, _, ok_by_name_r T L E_ S_ C_ei  F_10, He.glo_ok X G (c.fact 5 (f := (Hm.fa (.glo "_law_by_name"))) rfl), F_10.kp, F_10.bindsN (fun _ _ _ _ _ _ us hl => match us, hl with | [_], _ => rfl), trivial⟩
  have C_row_right : CalG P w K mg base 2 "_law_row_right" ["_law_made", "_law_due"] (sp_row_right K) (fun _ => True) := ⟨_, _, ok_row_right T L E_ S_ C_marks F_11, He.glo_ok X G (c.fact 6 (f := (Hm.fa (.glo "_law_row_right"))) rfl), F_11.kp, F_11.bindsN (fun _ _ _ _ _ _ us hl => match us, hl with | [_, _], _ => rfl), trivial⟩
  have C_caught : CalG P w K mg base 3 "_law_caught" ["_law_one", "_law_door"] (sp_caught K) (fun _ => True) := ⟨_, _, ok_caught T L E_ S_ C_ei  F_12, He.glo_ok X G (c.fact 7 (f := (Hm.fa (.glo "_law_caught"))) rfl), F_12.kp, F_12.bindsN (fun _ _ _ _ _ _ us hl => match us, hl with | [_, _], _ => rfl), trivial⟩
  have C_itself : CalG P w K mg base 6 "_law_itself" ["_law_trough_here"] (sp_itself K) (fun _ => True) := ⟨_, _, ok_itself T L E_ S_ C_ei C_ladle C_thing C_by_place_r C_by_name_r F_13, He.glo_ok X G (c.fact 8 (f := (Hm.fa (.glo "_law_itself"))) rfl), F_13.kp, F_13.bindsN (fun _ _ _ _ _ _ us hl => match us, hl with | [_], _ => rfl), trivial⟩
  have C_right : CalG P w K mg base 7 "_law_right" ["_law_trough_here"] (sp_right K) (fun _ => True) := ⟨_, _, ok_right T L E_ S_ C_ei C_thing C_marks C_by_place C_by_name C_row_right C_caught C_itself F_14, He.glo_ok X G (c.fact 9 (f := (Hm.fa (.glo "_law_right"))) rfl), F_14.kp, F_14.bindsN (fun _ _ _ _ _ _ us hl => match us, hl with | [_], _ => rfl), trivial⟩
  exact ok_law T L E_ S_ C_trough C_right F_15
end Wk
open PySem PySem.W PySem.Calls PyProof.Rows
theorem PySem.Challenge.cw_seenposts_k00_errors_keep_their_value_holds : PySem.Challenge.rw_seenposts_k00_errors_keep_their_value.Holds := by
  w_on; o_law
  refine HandSHeadRun.head_any (r := OpenLaw.row PySem.Challenge.rw_seenposts_k00_errors_keep_their_value) (q := view (OpenLaw.row PySem.Challenge.rw_seenposts_k00_errors_keep_their_value).prog [26]) (H := Wk.hkX) (ob := Wk.obX) (M := 20000) (loose := ["PostError", "InvalidSize", "InvalidPlace", "DoublePlace", "InvalidMatrix", "InvalidStep", "InvalidNumber", "InvalidWord", "Conflict", "Barred", "Taken", "Wrong", "NothingToUndo", "Unreadable", "_law_trough", "_law_ladle", "_law_thing", "_law_marks", "_law_by_place", "_law_by_name", "_law_row_right", "_law_caught", "_law_itself", "_law_right"]) (d := HandSHeadRun.topDef (OpenLaw.row PySem.Challenge.rw_seenposts_k00_errors_keep_their_value).prog 26) (kwd := []) Wk.obX_eq
    (by kernel_rfl) (fun s => by kernel_rfl) Wk.runX (by kernel_rfl) (by kernel_rfl) (by kernel_rfl) (by rfl) (by first | assumption | decide +kernel) (by decide +kernel) ⟨rfl, rfl, rfl, rfl, rfl, by decide +kernel⟩ ?hw ?hc
  case hw => w_witness2
  case hc =>
    refine Mw.walk_ofG (l := PySem.Challenge.rw_seenposts_k00_errors_keep_their_value) (n := 63) (k := 8) (x := "_law_script") (CX := L2.CX0) rfl (by decide) (by kernel_rfl) ⟨rfl, by decide, by decide⟩ ?F (fun _ _ _ _ z => z)
    intro w mg fa h Y G hmg0
    obtain ⟨K, KX, c⟩ := Y
    have hmg : mg ("law" : PySem.Str) = some (.ref fa) := by
      have e : (HandSHeadRun.topDef (OpenLaw.row PySem.Challenge.rw_seenposts_k00_errors_keep_their_value).prog 26).name = ("law" : PySem.Str) := by kernel_rfl
      rw [← e]
      exact hmg0
    obtain ⟨fd, hb, hF⟩ := Wk.factsX (P := (PySem.Challenge.rw_seenposts_k00_errors_keep_their_value).prog) (w := w) KX G hmg c
    exact ⟨K, fd, Wk.sp_law K, KX, hb, fun H a ns hl _ hS => Wk.law_end Pl.law_true H a ns hl hS, hF⟩

