import PyProof.Rows.All
import Wide.All
import OpenK.AllK
import Wide.FinOn
import PyProof.EqAt
import PyProof.EqKinds
import PyProof.TupleCall
import HandS.ForMost
import HandS.Exc
import HandS.WordsExc
import HandS.Evl
import HandS.IsInst
import HandS.WideBits
import HandS.Wide
import HandS.Style
import HandS.Defaults
import HandS.MakeKwOnly
import HandS.Deep
import HandS.TupAny
import HandS.TupMul
import HandS.Zip
import HandS.Star
import HandS.Property
import HandS.Iter
import HandS.HeadHook1
import HandS.HeadHook2
import HandS.Sort
import HandS.SortOrd
import HandS.SortRule
import HandS.SortInts
import HandS.Dict
import HandS.TupLen
import HandS.Conv
import HandS.ExcOwn
import HandS.ExcInit
import HandS.ExcField
import HandS.ExcIs
import KE.KExcIs
import HandS.RaiseMore
import HandS.SetBool
import HandS.TupSets
import HandS.DictComp
import HandS.SetKeys
import KE.KDictCopyH
import PyProof.DictMoreH
import HandS.Flow
import HandS.Head0
import HandS.Head1
import HandS.Head2
import HandS.HeadEnd
import PySem.Challenge.RW_seenposts_k24_refused_shifts_and_primes
set_option Elab.async false
set_option linter.all false
set_option maxRecDepth 100000
set_option maxHeartbeats 2000000
/-! A layer over the hand layer: typed data by representation, a frozen part of the heap, owned cells; what an expression computes as an Option of data. -/
namespace Mw
open PySem L2
open Evl (Ex)

/-! ### representations -/
structure Rp (α : Type) where
  r : Hp → V → α → Prop
  up : ∀ {H H' : Hp} {v : V} {a : α}, Ex H H' → r H v a → r H' v a

abbrev Rs {α : Type} (ra : Rp α) (H : Hp) : List V → List α → Prop := Paired (ra.r H)
theorem Rs.up {α : Type} {ra : Rp α} {H H' : Hp} {vs : List V} {ds : List α} (e : Ex H H') (h : Rs ra H vs ds) : Rs ra H' vs ds := L2.Paired.mapP h fun _ _ q => ra.up e q
def rInt : Rp Int := ⟨fun _ v i => v = .int i, fun _ h => h⟩
def rBool : Rp Bool := ⟨fun _ v b => v = .bl b, fun _ h => h⟩
def rStr : Rp Str := ⟨fun _ v s => v = .str s, fun _ h => h⟩
def rNon : Rp Unit := ⟨fun _ v _ => v = .non, fun _ h => h⟩
def rOpt {α : Type} (ra : Rp α) : Rp (Option α) := ⟨fun H v o => match o with
  | none => v = .non
  | some a => v ≠ .non ∧ ra.r H v a, fun {_ _ _ a} e h => match a, h with
  | none, h => h
  | some _, h => ⟨h.1, ra.up e h.2⟩⟩
def rLst {α : Type} (ra : Rp α) : Rp (List α) := ⟨fun H v ds => ∃ a vs, v = .ref a ∧ H a = some (.lst vs) ∧ Rs ra H vs ds, fun e ⟨a, vs, h1, h2, h3⟩ => ⟨a, vs, h1, e _ _ h2, Rs.up e h3⟩⟩
section
variable (K : PySem.W.Frag)
/-- a list that is only read (the script, one of the module's) -/
def rLsW {α : Type} (ra : Rp α) : Rp (List α) := ⟨fun H v ds => ∃ a vs, v = .ref a ∧ SqL K H a vs ∧ Rs ra H vs ds, fun e ⟨a, vs, h1, h2, h3⟩ => ⟨a, vs, h1, Evl.ex_l e h2, Rs.up e h3⟩⟩
def rTup (_ : PySem.W.Frag) {α : Type} (ra : Rp α) : Rp (List α) := ⟨fun H v ds => ∃ a vs, v = .ref a ∧ H a = some (.tup vs) ∧ Rs ra H vs ds, fun e ⟨a, vs, h1, h2, h3⟩ => ⟨a, vs, h1, e _ _ h2, Rs.up e h3⟩⟩
def rP2 (_ : PySem.W.Frag) {α β : Type} (ra : Rp α) (rb : Rp β) : Rp (α × β) := ⟨fun H v d => ∃ a v1 v2, v = .ref a ∧ H a = some (.tup [v1, v2]) ∧ ra.r H v1 d.1 ∧ rb.r H v2 d.2,
  fun e ⟨a, v1, v2, h1, h2, h3, h4⟩ => ⟨a, v1, v2, h1, e _ _ h2, ra.up e h3, rb.up e h4⟩⟩
def rP3 (_ : PySem.W.Frag) {α β γ : Type} (ra : Rp α) (rb : Rp β) (rc : Rp γ) : Rp (α × β × γ) := ⟨fun H v d => ∃ a v1 v2 v3, v = .ref a ∧ H a = some (.tup [v1, v2, v3]) ∧ ra.r H v1 d.1 ∧ rb.r H v2 d.2.1 ∧ rc.r H v3 d.2.2,
  fun e ⟨a, v1, v2, v3, h1, h2, h3, h4, h5⟩ => ⟨a, v1, v2, v3, h1, e _ _ h2, ra.up e h3, rb.up e h4, rc.up e h5⟩⟩
end

theorem ext_ {K : PySem.W.Frag} {F H : Hp} {a : Addr} {xs : List V} (e : Ex F H) (h : F a = some (.tup xs)) : SqT K H a xs := SqT.of (e _ _ h)
/-! ### cells: owned objects -/
/-- no tuple -/
def NT (o : HO) : Prop := match o with
  | .tup _ => False
  | _ => True
structure Cp where
  p : Hp → HO → Prop
  up : ∀ {H H' : Hp} {o : HO}, Ex H H' → p H o → p H' o
  nt : ∀ {H : Hp} {o : HO}, p H o → NT o
def cLst {α : Type} (ra : Rp α) (ds : List α) : Cp := ⟨fun F o => ∃ vs, o = .lst vs ∧ Rs ra F vs ds, fun e ⟨vs, h1, h2⟩ => ⟨vs, h1, Rs.up e h2⟩, fun ⟨_, h, _⟩ => by subst h; trivial⟩
abbrev Cs := List (Addr × Cp)
/-- an activation: the heap at entry, its frozen part, the cells handed in -/
structure Act where
  H0 : Hp
  F0 : Hp
  ps : List Addr
structure Cov (c : Act) (F : Hp) (cs : Cs) (H : Hp) : Prop where
  ex : Ex F H
  fz : Ex c.F0 F
  cell : ∀ x ∈ cs, F x.1 = none ∧ (c.H0 x.1 = none ∨ x.1 ∈ c.ps) ∧ ∃ o, H x.1 = some o ∧ x.2.p F o
  nd : (cs.map (·.1)).Nodup
  keep : ∀ b o, b ∉ c.ps → c.H0 b = some o → H b = some o
  nw : ∀ b o, F b = some o → c.F0 b = some o ∨ c.H0 b = none ∨ ∃ vs, o = .tup vs ∧ c.H0 b = some o
  dom : ∀ b, H b = none → c.H0 b = none
  pt : ∀ b ∈ c.ps, ∃ o, H b = some o ∧ NT o
theorem Cov.mono_dom {c : Act} {F H : Hp} {cs : Cs} (h : Cov c F cs H) {b : Addr} (hb : H b = none) : c.H0 b = none := h.dom b hb

section
variable {c : Act} {F H F' H' : Hp} {cs : Cs} {p : Addr} {o : HO} {x : Cp}
theorem Cov.fnone (h : Cov c F cs H) (hp : H p = none) : F p = none := by
  cases e : F p with
  | none => rfl
  | some o => rw [h.ex _ _ e] at hp; cases hp
theorem Cov.ptN (h : Cov c F cs H) (hp : H p = none) : ∀ b ∈ c.ps, ∃ u, upd H p o b = some u ∧ NT u := fun b hb => by
  obtain ⟨u, h1, h2⟩ := h.pt b hb
  exact ⟨u, by rw [upd_ne (ne_of_none h1 hp)]; exact h1, h2⟩
theorem Cov.ptS (h : Cov c F cs H) (n : NT o) : ∀ b ∈ c.ps, ∃ u, upd H p o b = some u ∧ NT u := fun b hb => by
  by_cases q : b = p
  · subst q; exact ⟨o, upd_same, n⟩
  · rw [upd_ne q]; exact h.pt b hb
/-- a new object, frozen at once -/
theorem Cov.lay (h : Cov c F cs H) (hp : H p = none) : Cov c (upd F p o) cs (upd H p o) := by
  have fp := h.fnone hp
  refine ⟨fun a u e => ?_, h.fz.trans (Ex.new fp), fun y hy => ?_, h.nd, fun b u hb e => ?_, fun b u e => ?_, fun b e => ?_, h.ptN hp⟩
  · by_cases q : a = p
    · subst q; rw [upd_same] at e ⊢; exact e
    · rw [upd_ne q] at e ⊢; exact h.ex _ _ e
  · obtain ⟨h1, h2, u, h3, h4⟩ := h.cell y hy
    have ny : y.1 ≠ p := ne_of_none h3 hp
    exact ⟨by rw [upd_ne ny]; exact h1, h2, u, by rw [upd_ne ny]; exact h3, y.2.up (Ex.new fp) h4⟩
  · have q := h.keep b u hb e
    rw [upd_ne (ne_of_none q hp)]; exact q
  · by_cases q : b = p
    · subst q; exact .inr (.inl (h.dom b hp))
    · rw [upd_ne q] at e; exact h.nw b u e
  · by_cases q : b = p
    · subst q; rw [upd_same] at e; cases e
    · rw [upd_ne q] at e; exact h.dom b e
/-- a new object, owned -/
theorem Cov.own0 (h : Cov c F cs H) (hp : H p = none) (hx : x.p F o) : Cov c F ((p, x) :: cs) (upd H p o) := by
  have fp := h.fnone hp
  refine ⟨fun a u e => ?_, h.fz, fun y hy => ?_, ?_, fun b u hb e => ?_, h.nw, fun b e => ?_, h.ptN hp⟩
  · rw [upd_ne (ne_of_none (h.ex _ _ e) hp)]; exact h.ex _ _ e
  · rcases List.mem_cons.mp hy with rfl | hy
    · exact ⟨fp, .inl (h.dom _ hp), o, upd_same, hx⟩
    · obtain ⟨h1, h2, u, h3, h4⟩ := h.cell y hy
      exact ⟨h1, h2, u, by rw [upd_ne (ne_of_none h3 hp)]; exact h3, h4⟩
  · rw [List.map_cons, List.nodup_cons]
    refine ⟨fun hm => ?_, h.nd⟩
    obtain ⟨y, hy, e⟩ := List.mem_map.mp hm
    obtain ⟨_, _, u, h3, _⟩ := h.cell y hy
    rw [e] at h3
    have h4 : H p = some u := h3
    rw [hp] at h4; cases h4
  · have q := h.keep b u hb e
    rw [upd_ne (ne_of_none q hp)]; exact q
  · by_cases q : b = p
    · subst q; rw [upd_same] at e; cases e
    · rw [upd_ne q] at e; exact h.dom b e
/-- the cell at hand -/
theorem Cov.head (h : Cov c F ((p, x) :: cs) H) : F p = none ∧ (c.H0 p = none ∨ p ∈ c.ps) ∧ ∃ o, H p = some o ∧ x.p F o := h.cell (p, x) List.mem_cons_self
theorem Cov.apart (h : Cov c F ((p, x) :: cs) H) : ∀ y ∈ cs, y.1 ≠ p := fun y hy e => by
  have q := h.nd
  rw [List.map_cons, List.nodup_cons] at q
  exact q.1 (List.mem_map.mpr ⟨y, hy, e⟩)
/-- the first cell changes -/
theorem Cov.set1 {x' : Cp} (h : Cov c F ((p, x) :: cs) H) (hx : x'.p F o) : Cov c F ((p, x') :: cs) (upd H p o) := by
  obtain ⟨f1, f2, u, f3, f4⟩ := h.head
  have ap := h.apart
  refine ⟨fun a v e => ?_, h.fz, fun y hy => ?_, h.nd, fun b v hb e => ?_, h.nw, fun b e => ?_, h.ptS (x'.nt hx)⟩
  · rw [upd_ne (ne_of_none e f1)]; exact h.ex _ _ e
  · rcases List.mem_cons.mp hy with rfl | hy
    · exact ⟨f1, f2, o, upd_same, hx⟩
    · obtain ⟨h1, h2, v, h3, h4⟩ := h.cell y (List.mem_cons_of_mem _ hy)
      exact ⟨h1, h2, v, by rw [upd_ne (ap y hy)]; exact h3, h4⟩
  · have nb : b ≠ p := fun z => by
      subst z
      rcases f2 with q | q
      · rw [q] at e; cases e
      · exact hb q
    rw [upd_ne nb]; exact h.keep b v hb e
  · by_cases q : b = p
    · subst q; rw [upd_same] at e; cases e
    · rw [upd_ne q] at e; exact h.dom b e
/-- cells in another order -/
theorem Cov.perm {cs' : Cs} (h : Cov c F cs H) (q : cs.Perm cs') : Cov c F cs' H :=
  ⟨h.ex, h.fz, fun y hy => h.cell y (q.mem_iff.mpr hy), (q.map _).nodup_iff.mp h.nd, h.keep, h.nw, h.dom, h.pt⟩
/-- the first cell is let go -/
theorem Cov.drop (h : Cov c F ((p, x) :: cs) H) : Cov c F cs H := by
  have q := h.nd
  rw [List.map_cons, List.nodup_cons] at q
  exact ⟨h.ex, h.fz, fun y hy => h.cell y (List.mem_cons_of_mem _ hy), q.2, h.keep, h.nw, h.dom, h.pt⟩
theorem Cov.dropAll (h : Cov c F cs H) : Cov c F [] H := ⟨h.ex, h.fz, fun _ hy => absurd hy List.not_mem_nil, List.nodup_nil, h.keep, h.nw, h.dom, h.pt⟩
/-- the first cell is frozen (its content as it stands) -/
theorem Cov.freeze (h : Cov c F ((p, x) :: cs) H) (hp : H p = some o) (hn : c.H0 p = none) : Cov c (upd F p o) cs H := by
  obtain ⟨f1, f2, u, f3, f4⟩ := h.head
  have ap := h.apart
  have hd := h.drop
  refine ⟨fun a v e => ?_, h.fz.trans (Ex.new f1), fun y hy => ?_, hd.nd, h.keep, fun b v e => ?_, h.dom, h.pt⟩
  · by_cases q : a = p
    · subst q; rw [upd_same] at e; cases e; exact hp
    · rw [upd_ne q] at e; exact h.ex _ _ e
  · obtain ⟨h1, h2, v, h3, h4⟩ := hd.cell y hy
    exact ⟨by rw [upd_ne (ap y hy)]; exact h1, h2, v, h3, y.2.up (Ex.new f1) h4⟩
  · by_cases q : b = p
    · subst q; exact .inr (.inl hn)
    · rw [upd_ne q] at e; exact h.nw b v e
theorem Cov.own (h : Cov c F cs H) (hp : H p = none) (hx : x.p F o) : Cov c F (cs ++ [(p, x)]) (upd H p o) := (h.own0 hp hx).perm (by
  have q := (List.perm_append_comm (l₁ := [(p, x)]) (l₂ := cs))
  exact q)
theorem Cov.toHead {l1 l2 : Cs} (h : Cov c F (l1 ++ (p, x) :: l2) H) : Cov c F ((p, x) :: (l1 ++ l2)) H := h.perm List.perm_middle
theorem Cov.ofHead {l1 l2 : Cs} (h : Cov c F ((p, x) :: (l1 ++ l2)) H) : Cov c F (l1 ++ (p, x) :: l2) H := h.perm List.perm_middle.symm
theorem Cov.split {i : Nat} (hi : cs[i]? = some (p, x)) : ∃ l1 l2, cs = l1 ++ (p, x) :: l2 ∧ l1.length = i := by
  obtain ⟨h1, h2⟩ := List.getElem?_eq_some_iff.mp hi
  refine ⟨cs.take i, cs.drop (i + 1), ?_, by rw [List.length_take]; omega⟩
  rw [← h2, List.getElem_cons_drop, List.take_append_drop]
/-- the i-th cell changes -/
theorem Cov.set {x' : Cp} (h : Cov c F cs H) (i : Nat) (hi : cs[i]? = some (p, x)) (hx : x'.p F o) : Cov c F (cs.set i (p, x')) (upd H p o) := by
  obtain ⟨l1, l2, rfl, rfl⟩ := Cov.split hi
  have q := (h.toHead.set1 (x' := x') hx).ofHead
  rw [List.set_append_right _ _ (Nat.le_refl _), Nat.sub_self]
  exact q
/-- the i-th cell is let go -/
theorem Cov.dropAt (h : Cov c F cs H) (i : Nat) (hi : cs[i]? = some (p, x)) : Cov c F (cs.eraseIdx i) H := by
  obtain ⟨l1, l2, rfl, rfl⟩ := Cov.split hi
  rw [List.eraseIdx_append_of_length_le (Nat.le_refl _), Nat.sub_self]
  exact h.toHead.drop
theorem Cov.at_ (h : Cov c F cs H) (i : Nat) (hi : cs[i]? = some (p, x)) : F p = none ∧ (c.H0 p = none ∨ p ∈ c.ps) ∧ ∃ o, H p = some o ∧ x.p F o := h.cell (p, x) (List.mem_of_getElem? hi)
/-- the i-th cell is frozen -/
theorem Cov.frzAt (h : Cov c F cs H) (i : Nat) (hi : cs[i]? = some (p, x)) (hp : H p = some o) (hn : c.H0 p = none) : Cov c (upd F p o) (cs.eraseIdx i) H := by
  obtain ⟨l1, l2, rfl, rfl⟩ := Cov.split hi
  rw [List.eraseIdx_append_of_length_le (Nat.le_refl _), Nat.sub_self]
  exact h.toHead.freeze hp hn
/-- only the first n are kept -/
theorem Cov.keepN (h : Cov c F cs H) (n : Nat) : Cov c F (cs.take n) H :=
  ⟨h.ex, h.fz, fun y hy => h.cell y (List.mem_of_mem_take hy), by rw [List.map_take]; exact h.nd.sublist (List.take_sublist _ _), h.keep, h.nw, h.dom, h.pt⟩
/-- rebased: an activation that begins here -/
theorem Cov.base (h : Cov c F cs H) : Cov ⟨H, F, cs.map (·.1)⟩ F cs H :=
  ⟨h.ex, Evl.Ex.refl F, fun y hy => by
    obtain ⟨h1, _, h3⟩ := h.cell y hy
    exact ⟨h1, .inr (List.mem_map.mpr ⟨y, hy, rfl⟩), h3⟩, h.nd, fun _ _ _ e => e, fun _ _ e => .inl e, fun _ e => e, fun b hb => by
    obtain ⟨y, hy, rfl⟩ := List.mem_map.mp hb
    obtain ⟨_, _, o, h3, h4⟩ := h.cell y hy
    exact ⟨o, h3, y.2.nt h4⟩⟩
/-- behind a part that owned cs1 of the cells (and leaves cs2 in their place) -/
theorem Cov.back {cs1 cs2 : Cs} (h : Cov c F (cs1 ++ cs) H) (k : Cov ⟨H, F, cs1.map (·.1)⟩ F' cs2 H') (old : ∀ y ∈ cs2, y.1 ∈ cs1.map (·.1) ∨ H y.1 = none) : Cov c F' (cs2 ++ cs) H' := by
  have nd := h.nd
  rw [List.map_append, List.nodup_append] at nd
  have kc : ∀ y ∈ cs, y.1 ∉ cs1.map (·.1) := fun y hy hm => nd.2.2 _ hm _ (List.mem_map.mpr ⟨y, hy, rfl⟩) rfl
  have hF : ∀ y ∈ cs, F' y.1 = none := fun y hy => by
    obtain ⟨h1, h2, o, h3, h4⟩ := h.cell y (List.mem_append_right _ hy)
    cases e : F' y.1 with
    | none => rfl
    | some u =>
      rcases k.nw _ _ e with q | q | ⟨vs, rfl, q⟩
      · have q' : F y.1 = some u := q
        rw [h1] at q'; cases q'
      · have q' : H y.1 = none := q
        rw [h3] at q'; cases q'
      · have q' : H y.1 = some (.tup vs) := q
        rw [h3] at q'; cases q'
        exact (y.2.nt h4).elim
  refine ⟨k.ex, h.fz.trans k.fz, fun y hy => ?_, ?_, fun b o hb e => ?_, fun b o e => ?_, fun b e => h.dom b (k.dom b e), fun b hb => ?_⟩
  · rcases List.mem_append.mp hy with hy | hy
    · obtain ⟨h1, h2, h3⟩ := k.cell y hy
      refine ⟨h1, ?_, h3⟩
      rcases old y hy with q | q
      · obtain ⟨z, hz, ez⟩ := List.mem_map.mp q
        obtain ⟨_, h5, _⟩ := h.cell z (List.mem_append_left _ hz)
        rw [← ez]; exact h5
      · exact .inl (h.dom _ q)
    · obtain ⟨h1, h2, o, h3, h4⟩ := h.cell y (List.mem_append_right _ hy)
      exact ⟨hF y hy, h2, o, k.keep _ _ (kc y hy) h3, y.2.up k.fz h4⟩
  · rw [List.map_append, List.nodup_append]
    refine ⟨k.nd, nd.2.1, fun a ha b hb e => ?_⟩
    obtain ⟨y, hy, ey⟩ := List.mem_map.mp ha
    obtain ⟨z, hz, ez⟩ := List.mem_map.mp hb
    rcases old y hy with q | q
    · exact nd.2.2 _ q _ (List.mem_map.mpr ⟨z, hz, rfl⟩) (by rw [ey, ez]; exact e)
    · obtain ⟨_, _, o, h3, _⟩ := h.cell z (List.mem_append_right _ hz)
      rw [ez, ← e, ← ey, q] at h3; cases h3
  · by_cases hm : b ∈ cs1.map (·.1)
    · obtain ⟨z, hz, ez⟩ := List.mem_map.mp hm
      obtain ⟨_, h5, _⟩ := h.cell z (List.mem_append_left _ hz)
      rcases h5 with q | q
      · rw [ez] at q; rw [q] at e; cases e
      · rw [ez] at q; exact absurd q hb
    · exact k.keep b o hm (h.keep b o hb e)
  · rcases k.nw b o e with q | q | ⟨vs, rfl, q⟩
    · exact h.nw b o q
    · exact .inr (.inl (h.dom b q))
    · have q' : H b = some (.tup vs) := q
      cases z : c.H0 b with
      | none => exact .inr (.inl rfl)
      | some u =>
        by_cases hb : b ∈ c.ps
        · obtain ⟨w, z1, z2⟩ := h.pt b hb
          rw [q'] at z1; cases z1
          exact z2.elim
        · have := h.keep b u hb z
          rw [q'] at this; cases this
          exact .inr (.inr ⟨vs, rfl, rfl⟩)
  · by_cases hm : b ∈ cs1.map (·.1)
    · exact k.pt b hm
    · obtain ⟨u, z1, z2⟩ := h.pt b hb
      exact ⟨u, k.keep b u hm z1, z2⟩
/-- behind a call that touched none of them -/
theorem Cov.call0 (h : Cov c F cs H) (k : Cov ⟨H, F, []⟩ F' [] H') : Cov c F' cs H' := h.back (cs1 := []) (cs2 := []) k fun _ hy => by cases hy
/-- a call that changed the first -/
theorem Cov.call1 {x' : Cp} (h : Cov c F ((p, x) :: cs) H) (k : Cov ⟨H, F, [p]⟩ F' [(p, x')] H') : Cov c F' ((p, x') :: cs) H' :=
  h.back (cs1 := [(p, x)]) (cs2 := [(p, x')]) k fun y hy => by
    rcases List.mem_cons.mp hy with rfl | hy
    · exact .inl List.mem_cons_self
    · cases hy
/-- a new cell that a call hands back -/
theorem Cov.old_new {cs2 : Cs} (k : Cov ⟨H, F, []⟩ F' cs2 H') : ∀ y ∈ cs2, y.1 ∈ ([] : List Addr) ∨ H y.1 = none := fun y hy => by
  obtain ⟨_, h2, _⟩ := k.cell y hy
  rcases h2 with q | q
  · exact .inr q
  · cases q
/-- what stands behind the cell of a call is new -/
theorem Cov.newOf {a : Addr} {y : Cp} (k : Cov ⟨H, F, [p]⟩ F' [(p, x), (a, y)] H') : H a = none := by
  obtain ⟨_, h2, _⟩ := k.cell (a, y) (List.mem_cons_of_mem _ List.mem_cons_self)
  have q := k.nd
  rcases h2 with h2 | h2
  · exact h2
  · have e : a = p := by
      rcases List.mem_cons.mp h2 with e | e
      · exact e
      · exact absurd e List.not_mem_nil
    subst e
    have q' : ([a, a] : List Addr).Nodup := q
    simp at q'
theorem Cov.call0n {cs2 : Cs} (h : Cov c F cs H) (k : Cov ⟨H, F, []⟩ F' cs2 H') : Cov c F' (cs ++ cs2) H' := (h.back (cs1 := []) (cs2 := cs2) k k.old_new).perm List.perm_append_comm
theorem Cov.old_ps {cs1 cs2 : Cs} (k : Cov ⟨H, F, cs1.map (·.1)⟩ F' cs2 H') : ∀ y ∈ cs2, y.1 ∈ cs1.map (·.1) ∨ H y.1 = none := fun y hy => by
  obtain ⟨_, h2, _⟩ := k.cell y hy
  rcases h2 with q | q
  · exact .inr q
  · exact .inl q
/-- a call that changed the i-th -/
theorem Cov.callAt {x' : Cp} (h : Cov c F cs H) (i : Nat) (hi : cs[i]? = some (p, x)) (k : Cov ⟨H, F, [p]⟩ F' [(p, x')] H') : Cov c F' (cs.set i (p, x')) H' := by
  obtain ⟨l1, l2, rfl, rfl⟩ := Cov.split hi
  have q := (h.toHead.call1 k).ofHead
  rw [List.set_append_right _ _ (Nat.le_refl _), Nat.sub_self]
  exact q
/-- .. and handed back a new cell -/
theorem Cov.callAtN {x' y : Cp} {q : Addr} (h : Cov c F cs H) (i : Nat) (hi : cs[i]? = some (p, x)) (k : Cov ⟨H, F, [p]⟩ F' [(p, x'), (q, y)] H') : Cov c F' (cs.set i (p, x') ++ [(q, y)]) H' := by
  obtain ⟨l1, l2, rfl, rfl⟩ := Cov.split hi
  have z := h.toHead.back (cs1 := [(p, x)]) (cs2 := [(p, x'), (q, y)]) k (Cov.old_ps (cs1 := [(p, x)]) k)
  rw [List.set_append_right _ _ (Nat.le_refl _), Nat.sub_self]
  refine z.perm ?_
  show ((p, x') :: (q, y) :: (l1 ++ l2)).Perm ((l1 ++ (p, x') :: l2) ++ [(q, y)])
  refine (List.Perm.swap _ _ _).trans ?_
  refine (List.Perm.cons _ List.perm_middle.symm).trans ?_
  exact (List.perm_append_comm (l₁ := [(q, y)]))
theorem Cov.preAt (h : Cov c F cs H) (i : Nat) (hi : cs[i]? = some (p, x)) : Cov ⟨H, F, [p]⟩ F [(p, x)] H := by
  obtain ⟨h1, _, h3⟩ := h.at_ i hi
  refine ⟨h.ex, Evl.Ex.refl F, fun y hy => ?_, by simp, fun _ _ _ e => e, fun _ _ e => Or.inl e, fun _ e => e, fun b hb => by
    obtain ⟨o, g1, g2⟩ := h3
    rw [List.mem_singleton.mp hb]
    exact ⟨o, g1, x.nt g2⟩⟩
  rcases List.mem_cons.mp hy with rfl | hy
  · exact ⟨h1, Or.inr List.mem_cons_self, h3⟩
  · exact absurd hy List.not_mem_nil
theorem Cov.pre0 (h : Cov c F cs H) : Cov ⟨H, F, []⟩ F [] H := ⟨h.ex, Evl.Ex.refl F, fun _ hy => absurd hy List.not_mem_nil, List.nodup_nil, fun _ _ _ e => e, fun _ _ e => .inl e, fun _ e => e, fun _ hb => absurd hb List.not_mem_nil⟩
end

/-! ### what an expression computes -/
/-- te gives m's value, the cells as they were -/
def EM {α : Type} (ra : Rp α) (te : TE) (σ : L2.St) (F : Hp) (cs : Cs) (m : Option α) : Prop := ∀ d, m = some d → ∀ c F1 H, Ex F F1 → Cov c F1 cs H → ∀ Q : VK, (∀ v F2 H2, Ex F1 F2 → Cov c F2 cs H2 → ra.r F2 v d → Q v H2) → te σ H Q
/-- te gives a new list of m's items, an owned cell -/
def EF {α : Type} (ra : Rp α) (te : TE) (σ : L2.St) (F : Hp) (cs : Cs) (m : Option (List α)) : Prop := ∀ d, m = some d → ∀ c F1 H, Ex F F1 → Cov c F1 cs H → ∀ Q : VK, (∀ p F2 H2, Ex F1 F2 → Cov c F2 (cs ++ [(p, cLst ra d)]) H2 → c.H0 p = none → Q (.ref p) H2) → te σ H Q
def EA {α : Type} (ra : Rp α) (ta : TA) (σ : L2.St) (F : Hp) (cs : Cs) (m : Option (List α)) : Prop := ∀ d, m = some d → ∀ c F1 H, Ex F F1 → Cov c F1 cs H → ∀ Q : List V → Hp → Prop, (∀ vs F2 H2, Ex F1 F2 → Cov c F2 cs H2 → Rs ra F2 vs d → Q vs H2) → ta σ H Q
def ET (tt : TT) (σ : L2.St) (F : Hp) (cs : Cs) (m : Option Bool) : Prop := ∀ d, m = some d → ∀ c F1 H, Ex F F1 → Cov c F1 cs H → ∀ Q : Bool → Hp → Prop, (∀ F2 H2, Ex F1 F2 → Cov c F2 cs H2 → Q d H2) → tt σ H Q
/-- an operation upon values -/
def VO {α β γ : Type} (rd : R2) (ra : Rp α) (rb : Rp β) (rc : Rp γ) (g : α → β → Option γ) : Prop := ∀ c F cs H v w a b d, Cov c F cs H → ra.r F v a → rb.r F w b → g a b = some d → ∀ Q : VK, (∀ u F2 H2, Ex F F2 → Cov c F2 cs H2 → rc.r F2 u d → Q u H2) → rd v w H Q
def VU {α γ : Type} (rd : V → Hp → VK → Prop) (ra : Rp α) (rc : Rp γ) (g : α → Option γ) : Prop := ∀ c F cs H v a d, Cov c F cs H → ra.r F v a → g a = some d → ∀ Q : VK, (∀ u F2 H2, Ex F F2 → Cov c F2 cs H2 → rc.r F2 u d → Q u H2) → rd v H Q
def VC {α γ : Type} (rd : List V → Hp → VK → Prop) (ra : Rp α) (rc : Rp γ) (g : α → Option γ) : Prop := ∀ c F cs H v a d, Cov c F cs H → ra.r F v a → g a = some d → ∀ Q : VK, (∀ u F2 H2, Ex F F2 → Cov c F2 cs H2 → rc.r F2 u d → Q u H2) → rd [v] H Q
def VC2 {α β γ : Type} (rd : List V → Hp → VK → Prop) (ra : Rp α) (rb : Rp β) (rc : Rp γ) (g : α → β → Option γ) : Prop := ∀ c F cs H v w a b d, Cov c F cs H → ra.r F v a → rb.r F w b → g a b = some d → ∀ Q : VK, (∀ u F2 H2, Ex F F2 → Cov c F2 cs H2 → rc.r F2 u d → Q u H2) → rd [v, w] H Q
/-- the same of a new list -/
def VOF {α β γ : Type} (rd : R2) (ra : Rp α) (rb : Rp β) (rc : Rp γ) (g : α → β → Option (List γ)) : Prop := ∀ c F cs H v w a b d, Cov c F cs H → ra.r F v a → rb.r F w b → g a b = some d → ∀ Q : VK, (∀ p F2 H2, Ex F F2 → Cov c F2 (cs ++ [(p, cLst rc d)]) H2 → c.H0 p = none → Q (.ref p) H2) → rd v w H Q
def VCF {α γ : Type} (rd : List V → Hp → VK → Prop) (ra : Rp α) (rc : Rp γ) (g : α → Option (List γ)) : Prop := ∀ c F cs H v a d, Cov c F cs H → ra.r F v a → g a = some d → ∀ Q : VK, (∀ p F2 H2, Ex F F2 → Cov c F2 (cs ++ [(p, cLst rc d)]) H2 → c.H0 p = none → Q (.ref p) H2) → rd [v] H Q

/-! ### data -/
def o1 {α γ : Type} (g : α → Option γ) (ma : Option α) : Option γ := ma.bind g
def o2 {α β γ : Type} (g : α → β → Option γ) (ma : Option α) (mb : Option β) : Option γ := ma.bind fun a => mb.bind fun b => g a b
def oAnd (a b : Option Bool) : Option Bool := a.bind fun x => if x = true then b else some false
def oOr (a b : Option Bool) : Option Bool := a.bind fun x => if x = true then some true else b
def oNot (a : Option Bool) : Option Bool := a.map fun x => !x
def oIf {α : Type} (c : Option Bool) (a b : Option α) : Option α := c.bind fun x => if x = true then a else b
def oCons {α : Type} (a : Option α) (l : Option (List α)) : Option (List α) := a.bind fun x => l.bind fun r => some (x :: r)
def addG (a b : Int) : Option Int := some (a + b)
def subG (a b : Int) : Option Int := some (a - b)
def mulG (a b : Int) : Option Int := if a.natAbs < 2 ^ 64 ∨ b.natAbs < 2 ^ 64 ∨ a.natAbs.log2 + b.natAbs.log2 ≤ 134000000 then some (a * b) else none
def divG (a b : Int) : Option Int := if 0 < b ∧ b.natAbs.log2 < 9000 then some (a / b) else if b < 0 ∧ b.natAbs.log2 < 9000 then some (Int.fdiv a b) else none
def modG (a b : Int) : Option Int := if 0 < b then some (a % b) else none
def powG (a b : Int) : Option Int := if 0 ≤ b ∧ b ≤ 1000000 ∧ a.natAbs < 2 ^ 64 then some (a ^ b.toNat) else none
def ltG (a b : Int) : Option Bool := some (decide (a < b))
def leG (a b : Int) : Option Bool := some (decide (a ≤ b))
def gtG (a b : Int) : Option Bool := some (decide (b < a))
def geG (a b : Int) : Option Bool := some (decide (b ≤ a))
def eqG {α : Type} [DecidableEq α] (a b : α) : Option Bool := some (decide (a = b))
def neG {α : Type} [DecidableEq α] (a b : α) : Option Bool := some (!decide (a = b))
def ixG {α : Type} (l : List α) (i : Int) : Option α := atI l i
def setG {α : Type} (l : List α) (i : Int) (x : α) : Option (List α) := (ixN l.length i).map fun j => l.set j x
def absG (a : Int) : Option Int := some (if a < 0 then -a else a)
def negG (a : Int) : Option Int := some (-a)
def maxG (a b : Int) : Option Int := some (if b > a then b else a)
def minG (a b : Int) : Option Int := some (if b < a then b else a)
def lenG {α : Type} (l : List α) : Option Int := some (l.length : Int)
def catG {α : Type} (a b : List α) : Option (List α) := if a.length + b.length ≤ 16000000 then some (a ++ b) else none
def repG {α : Type} (a : List α) (k : Int) : Option (List α) := if -(2 ^ 63) ≤ k ∧ k < 2 ^ 20 ∧ a.length ≤ 15 then some (List.replicate k.toNat a).flatten else none
def cut {α : Type} (xs : List α) (lo hi : Option Int) : List α := (xs.drop (HT.sIx xs.length 0 lo)).take (HT.sIx xs.length xs.length hi - HT.sIx xs.length 0 lo)
def b2i (k : Bool) : Int := if k then 1 else 0

theorem o1_some {α γ : Type} {g : α → Option γ} {ma : Option α} {d : γ} (h : o1 g ma = some d) : ∃ a, ma = some a ∧ g a = some d := by
  cases ma with
  | none => cases h
  | some a => exact ⟨a, rfl, h⟩
theorem o2_some {α β γ : Type} {g : α → β → Option γ} {ma : Option α} {mb : Option β} {d : γ} (h : o2 g ma mb = some d) : ∃ a b, ma = some a ∧ mb = some b ∧ g a b = some d := by
  cases ma with
  | none => cases h
  | some a => cases mb with
    | none => cases h
    | some b => exact ⟨a, b, rfl, rfl, h⟩
theorem bind_some {α γ : Type} {g : α → Option γ} {ma : Option α} {d : γ} (h : ma.bind g = some d) : ∃ a, ma = some a ∧ g a = some d := by
  cases ma with
  | none => cases h
  | some a => exact ⟨a, rfl, h⟩

/-! ### expressions -/
section
variable {α β γ : Type} {ra : Rp α} {rb : Rp β} {rc : Rp γ} {σ : L2.St} {F : Hp} {cs : Cs} {ta tb te : TE} {t u : TT} {v : V} {d : α} {ma : Option α} {mb : Option β} {K : PySem.W.Frag}
theorem EM.up {F' : Hp} (h : EM ra te σ F cs ma) (e : Ex F F') : EM ra te σ F' cs ma := fun d q c F1 H e1 => h d q c F1 H (e.trans e1)
theorem em_var {i : Nat} (h : σ[i]? = some (some v)) (r : ra.r F v d) : EM ra (tVar i) σ F cs (some d) := fun d' q c F1 H e k Q hQ => by
  cases q
  exact ⟨v, h, hQ v F1 H (Evl.Ex.refl _) k (ra.up e r)⟩
/-- a value that does not stand on the heap -/
def Flat {α : Type} (ra : Rp α) : Prop := ∀ F F' v d, ra.r F v d → ra.r F' v d
theorem fl_int : Flat rInt := fun _ _ _ _ h => h
theorem fl_bool : Flat rBool := fun _ _ _ _ h => h
theorem fl_str : Flat rStr := fun _ _ _ _ h => h
theorem fl_non : Flat rNon := fun _ _ _ _ h => h
theorem fl_opt (f : Flat ra) : Flat (rOpt ra) := fun F F' v d h => match d, h with
  | none, h => h
  | some _, h => ⟨h.1, f _ _ _ _ h.2⟩
theorem em_varf {i : Nat} {F0 : Hp} (f : Flat ra) (h : σ[i]? = some (some v)) (r : ra.r F0 v d) : EM ra (tVar i) σ F cs (some d) := fun d' q c F1 H e k Q hQ => by
  cases q
  exact ⟨v, h, hQ v F1 H (Evl.Ex.refl _) k (f _ _ _ _ r)⟩
theorem em_c (r : ∀ H, ra.r H v d) : EM ra (tC v) σ F cs (some d) := fun d' q c F1 H e k Q hQ => by
  cases q
  exact hQ v F1 H (Evl.Ex.refl _) k (r _)
theorem em_int {i : Int} : EM rInt (tC (.int i)) σ F cs (some i) := em_c fun _ => rfl
theorem em_bl {b : Bool} : EM rBool (tC (.bl b)) σ F cs (some b) := em_c fun _ => rfl
theorem em_str {s : Str} : EM rStr (tC (.str s)) σ F cs (some s) := em_c fun _ => rfl
theorem em_non : EM (rOpt ra) (tC .non) σ F cs (some none) := em_c fun _ => rfl
theorem em_op {rd : R2} {g : α → β → Option γ} (hv : VO rd ra rb rc g) (ha : EM ra ta σ F cs ma) (hb : EM rb tb σ F cs mb) : EM rc (tOp rd ta tb) σ F cs (o2 g ma mb) := fun d q c F1 H e k Q hQ => by
  obtain ⟨a, b, q1, q2, q3⟩ := o2_some q
  refine ha a q1 c F1 H e k _ fun x F2 H2 e2 k2 r2 => hb b q2 c F2 H2 (e.trans e2) k2 _ fun y F3 H3 e3 k3 r3 => hv c F3 cs H3 x y a b d k3 (ra.up e3 r2) r3 q3 Q fun z F4 H4 e4 k4 r4 => hQ z F4 H4 ((e2.trans e3).trans e4) k4 r4
theorem em_opF {rd : R2} {g : α → β → Option (List γ)} (hv : VOF rd ra rb rc g) (ha : EM ra ta σ F cs ma) (hb : EM rb tb σ F cs mb) : EF rc (tOp rd ta tb) σ F cs (o2 g ma mb) := fun d q c F1 H e k Q hQ => by
  obtain ⟨a, b, q1, q2, q3⟩ := o2_some q
  refine ha a q1 c F1 H e k _ fun x F2 H2 e2 k2 r2 => hb b q2 c F2 H2 (e.trans e2) k2 _ fun y F3 H3 e3 k3 r3 => hv c F3 cs H3 x y a b d k3 (ra.up e3 r2) r3 q3 Q fun p F4 H4 e4 k4 n4 => hQ p F4 H4 ((e2.trans e3).trans e4) k4 n4
theorem em_un {rd : V → Hp → VK → Prop} {g : α → Option γ} (hv : VU rd ra rc g) (ha : EM ra ta σ F cs ma) : EM rc (tUn rd ta) σ F cs (o1 g ma) := fun d q c F1 H e k Q hQ => by
  obtain ⟨a, q1, q3⟩ := o1_some q
  refine ha a q1 c F1 H e k _ fun x F2 H2 e2 k2 r2 => hv c F2 cs H2 x a d k2 r2 q3 Q fun z F4 H4 e4 k4 r4 => hQ z F4 H4 (e2.trans e4) k4 r4
theorem em_cb {rd : List V → Hp → VK → Prop} {g : α → Option γ} (hv : VC rd ra rc g) (ha : EM ra ta σ F cs ma) : EM rc (tCB rd (tCons ta tNil)) σ F cs (o1 g ma) := fun d q c F1 H e k Q hQ => by
  obtain ⟨a, q1, q3⟩ := o1_some q
  refine ha a q1 c F1 H e k _ fun x F2 H2 e2 k2 r2 => hv c F2 cs H2 x a d k2 r2 q3 Q fun z F4 H4 e4 k4 r4 => hQ z F4 H4 (e2.trans e4) k4 r4
theorem em_cbF {rd : List V → Hp → VK → Prop} {g : α → Option (List γ)} (hv : VCF rd ra rc g) (ha : EM ra ta σ F cs ma) : EF rc (tCB rd (tCons ta tNil)) σ F cs (o1 g ma) := fun d q c F1 H e k Q hQ => by
  obtain ⟨a, q1, q3⟩ := o1_some q
  refine ha a q1 c F1 H e k _ fun x F2 H2 e2 k2 r2 => hv c F2 cs H2 x a d k2 r2 q3 Q fun z F4 H4 e4 k4 n4 => hQ z F4 H4 (e2.trans e4) k4 n4
theorem em_cb2 {rd : List V → Hp → VK → Prop} {g : α → β → Option γ} (hv : VC2 rd ra rb rc g) (ha : EM ra ta σ F cs ma) (hb : EM rb tb σ F cs mb) : EM rc (tCB rd (tCons ta (tCons tb tNil))) σ F cs (o2 g ma mb) := fun d q c F1 H e k Q hQ => by
  obtain ⟨a, b, q1, q2, q3⟩ := o2_some q
  refine ha a q1 c F1 H e k _ fun x F2 H2 e2 k2 r2 => hb b q2 c F2 H2 (e.trans e2) k2 _ fun y F3 H3 e3 k3 r3 => hv c F3 cs H3 x y a b d k3 (ra.up e3 r2) r3 q3 Q fun z F4 H4 e4 k4 r4 => hQ z F4 H4 ((e2.trans e3).trans e4) k4 r4
theorem em_eq {m m' : Option α} (h : EM ra te σ F cs m) (e : m = m') : EM ra te σ F cs m' := e ▸ h
theorem et_eq {m m' : Option Bool} (h : ET t σ F cs m) (e : m = m') : ET t σ F cs m' := e ▸ h
/-- a new list, frozen -/
theorem EF.em {m : Option (List α)} (h : EF ra te σ F cs m) : EM (rLst ra) te σ F cs m := fun d q c F1 H e k Q hQ => by
  refine h d q c F1 H e k Q fun p F2 H2 e2 k2 n2 => ?_
  obtain ⟨f1, _, o, f3, vs, rfl, f4⟩ := k2.cell (p, cLst ra d) (List.mem_append_right _ List.mem_cons_self)
  exact hQ (.ref p) _ H2 (e2.trans (Ex.new f1)) (k2.toHead.freeze f3 n2 |>.perm (by rw [List.append_nil])) ⟨p, vs, rfl, upd_same, Rs.up (Ex.new f1) f4⟩
/-! tests -/
theorem et_test {m : Option Bool} (h : EM rBool te σ F cs m) : ET (tTest te) σ F cs m := fun d q c F1 H e k Q hQ => h d q c F1 H e k _ fun v F2 H2 e2 k2 r2 => ⟨d, r2, hQ F2 H2 e2 k2⟩
theorem et_B {m : Option Bool} (h : EM rBool te σ F cs m) : ET (tB te) σ F cs m := fun d q c F1 H e k Q hQ => h d q c F1 H e k _ fun v F2 H2 e2 k2 r2 => ⟨d, r2, hQ F2 H2 e2 k2⟩
theorem et_and {m n : Option Bool} (h1 : ET t σ F cs m) (h2 : ET u σ F cs n) : ET (tAnd t u) σ F cs (oAnd m n) := fun d q c F1 H e k Q hQ => by
  obtain ⟨a, q1, q2⟩ := bind_some q
  refine h1 a q1 c F1 H e k _ fun F2 H2 e2 k2 => ?_
  cases a with
  | true =>
    show u σ H2 Q
    exact h2 d q2 c F2 H2 (e.trans e2) k2 Q fun F3 H3 e3 k3 => hQ F3 H3 (e2.trans e3) k3
  | false =>
    cases q2
    show Q false H2
    exact hQ F2 H2 e2 k2
theorem et_or {m n : Option Bool} (h1 : ET t σ F cs m) (h2 : ET u σ F cs n) : ET (tOr t u) σ F cs (oOr m n) := fun d q c F1 H e k Q hQ => by
  obtain ⟨a, q1, q2⟩ := bind_some q
  refine h1 a q1 c F1 H e k _ fun F2 H2 e2 k2 => ?_
  cases a with
  | true =>
    cases q2
    show Q true H2
    exact hQ F2 H2 e2 k2
  | false =>
    show u σ H2 Q
    exact h2 d q2 c F2 H2 (e.trans e2) k2 Q fun F3 H3 e3 k3 => hQ F3 H3 (e2.trans e3) k3
theorem et_not {m : Option Bool} (h1 : ET t σ F cs m) : ET (tNot t) σ F cs (oNot m) := fun d q c F1 H e k Q hQ => by
  cases m with
  | none => cases q
  | some a =>
    cases q
    exact h1 a rfl c F1 H e k _ fun F2 H2 e2 k2 => hQ F2 H2 e2 k2
theorem em_andV {m n : Option Bool} (h1 : EM rBool ta σ F cs m) (h2 : EM rBool tb σ F cs n) : EM rBool (tAndV ta tb) σ F cs (oAnd m n) := fun d q c F1 H e k Q hQ => by
  obtain ⟨a, q1, q2⟩ := bind_some q
  refine h1 a q1 c F1 H e k _ fun v F2 H2 e2 k2 r2 => ⟨a, r2, ?_⟩
  cases a with
  | true =>
    show tb σ H2 Q
    exact h2 d q2 c F2 H2 (e.trans e2) k2 Q fun v F3 H3 e3 k3 r3 => hQ v F3 H3 (e2.trans e3) k3 r3
  | false =>
    cases q2
    show Q (.bl false) H2
    exact hQ _ F2 H2 e2 k2 rfl
theorem em_orV {m n : Option Bool} (h1 : EM rBool ta σ F cs m) (h2 : EM rBool tb σ F cs n) : EM rBool (tOrV ta tb) σ F cs (oOr m n) := fun d q c F1 H e k Q hQ => by
  obtain ⟨a, q1, q2⟩ := bind_some q
  refine h1 a q1 c F1 H e k _ fun v F2 H2 e2 k2 r2 => ⟨a, r2, ?_⟩
  cases a with
  | true =>
    cases q2
    show Q (.bl true) H2
    exact hQ _ F2 H2 e2 k2 rfl
  | false =>
    show tb σ H2 Q
    exact h2 d q2 c F2 H2 (e.trans e2) k2 Q fun v F3 H3 e3 k3 r3 => hQ v F3 H3 (e2.trans e3) k3 r3
theorem em_notV {m : Option Bool} (h1 : EM rBool ta σ F cs m) : EM rBool (tNotV ta) σ F cs (oNot m) := fun d q c F1 H e k Q hQ => by
  cases m with
  | none => cases q
  | some a =>
    cases q
    exact h1 a rfl c F1 H e k _ fun v F2 H2 e2 k2 r2 => ⟨a, r2, hQ _ F2 H2 e2 k2 rfl⟩
theorem em_if {m : Option Bool} {n1 n2 : Option α} (h : ET t σ F cs m) (h1 : EM ra ta σ F cs n1) (h2 : EM ra tb σ F cs n2) : EM ra (tIf t ta tb) σ F cs (oIf m n1 n2) := fun d q c F1 H e k Q hQ => by
  obtain ⟨a, q1, q2⟩ := bind_some q
  refine h a q1 c F1 H e k _ fun F2 H2 e2 k2 => ?_
  cases a with
  | true =>
    show ta σ H2 Q
    exact h1 d q2 c F2 H2 (e.trans e2) k2 Q fun v F3 H3 e3 k3 r3 => hQ v F3 H3 (e2.trans e3) k3 r3
  | false =>
    show tb σ H2 Q
    exact h2 d q2 c F2 H2 (e.trans e2) k2 Q fun v F3 H3 e3 k3 r3 => hQ v F3 H3 (e2.trans e3) k3 r3
/-! argument lists, displays -/
theorem ea_nil : EA ra tNil σ F cs (some []) := fun d q c F1 H e k Q hQ => by
  cases q
  exact hQ [] F1 H (Evl.Ex.refl _) k .nil
theorem ea_cons {tr : TA} {l : Option (List α)} (h : EM ra ta σ F cs ma) (hr : EA ra tr σ F cs l) : EA ra (tCons ta tr) σ F cs (oCons ma l) := fun d q c F1 H e k Q hQ => by
  obtain ⟨a, q1, q2⟩ := bind_some q
  obtain ⟨b, q3, q4⟩ := bind_some q2
  cases q4
  exact h a q1 c F1 H e k _ fun v F2 H2 e2 k2 r2 => hr b q3 c F2 H2 (e.trans e2) k2 _ fun vs F3 H3 e3 k3 r3 => hQ (v :: vs) F3 H3 (e2.trans e3) k3 (.cons (ra.up e3 r2) r3)
def szG {α : Type} (l : List α) : Option (List α) := if l.length ≤ 16000000 then some l else none
theorem szG_some {l d : List α} (h : szG l = some d) : d = l ∧ l.length ≤ 16000000 := by
  unfold szG at h
  split at h
  · cases h; exact ⟨rfl, by assumption⟩
  · cases h
theorem sz_ok {n : Nat} (h : n ≤ 16000000) : n ≤ sizeLine := by
  rw [sizeLine_eq]; omega
theorem ef_lst {ta : TA} {l : Option (List α)} (h : EA ra ta σ F cs l) : EF ra (tLst ta) σ F cs (o1 szG l) := fun d q c F1 H e k Q hQ => by
  obtain ⟨a, q1, q2⟩ := o1_some q
  obtain ⟨rfl, hl⟩ := szG_some q2
  refine h _ q1 c F1 H e k _ fun vs F2 H2 e2 k2 r2 => ⟨sz_ok (by rw [r2.length]; exact hl), fun p hp => hQ p F2 _ e2 (k2.own hp ⟨vs, rfl, r2⟩) (k2.dom p hp)⟩
theorem em_tup {ta : TA} {l : Option (List α)} (h : EA ra ta σ F cs l) : EM (rTup K ra) (tTup ta) σ F cs (o1 szG l) := fun d q c F1 H e k Q hQ => by
  obtain ⟨a, q1, q2⟩ := o1_some q
  obtain ⟨rfl, hl⟩ := szG_some q2
  refine h _ q1 c F1 H e k _ fun vs F2 H2 e2 k2 r2 => ⟨sz_ok (by rw [r2.length]; exact hl), fun p hp => hQ (.ref p) _ _ (e2.trans (Ex.new (k2.fnone hp))) (k2.lay hp) ⟨p, vs, rfl, upd_same, Rs.up (Ex.new (k2.fnone hp)) r2⟩⟩
end
end Mw

set_option maxHeartbeats 2000000
namespace Mw
open PySem L2
open Evl (Ex)

/-! ### operations upon ints, bools -/
section
theorem vo_add : VO (rI0 fun i j => .int (i + j)) rInt rInt rInt addG := fun c F cs H v w a b d k r1 r2 q Q hQ => by
  cases q; exact ⟨a, b, r1, r2, hQ _ F H (Evl.Ex.refl _) k rfl⟩
theorem vo_sub : VO (rI0 fun i j => .int (i - j)) rInt rInt rInt subG := fun c F cs H v w a b d k r1 r2 q Q hQ => by
  cases q; exact ⟨a, b, r1, r2, hQ _ F H (Evl.Ex.refl _) k rfl⟩
theorem mulG_ok {a b : Int} (h : a.natAbs < 2 ^ 64 ∨ b.natAbs < 2 ^ 64 ∨ a.natAbs.log2 + b.natAbs.log2 ≤ 134000000) : PySem.IntMulOk a b := by
  have q : ∀ x : Int, Builtin.Int.intBits x ≤ x.natAbs.log2 + 1 := fun x => by
    unfold Builtin.Int.intBits
    split <;> omega
  rcases h with h | h | h
  · have z := PySem.Flt.log2_lt_of (by decide : 0 < 64) h
    exact PySem.IntMulOk.of_left (by have := q a; omega)
  · have z := PySem.Flt.log2_lt_of (by decide : 0 < 64) h
    exact PySem.IntMulOk.of_right (by have := q b; omega)
  · have h1 := q a
    have h2 := q b
    exact CMulX.ok (by unfold CMulX; omega)
theorem op_mulI {X : Cx} : OpR X (binaryOp .Mult) (rI PySem.IntMulOk fun i j => .int (i * j)) := opI fun _ _ _ _ _ _ _ hc q => PyProof.Rows.mul_int q hc
theorem vo_mul : VO (rI PySem.IntMulOk fun i j => .int (i * j)) rInt rInt rInt mulG := fun c F cs H v w a b d k r1 r2 q Q hQ => by
  unfold mulG at q
  split at q
  · rename_i h
    cases q
    exact ⟨a, b, r1, r2, mulG_ok h, hQ _ F H (Evl.Ex.refl _) k rfl⟩
  · cases q
def CDivF (_ j : Int) : Prop := j ≠ 0 ∧ j.natAbs.log2 < 9000
theorem op_fdivF {X : Cx} : OpR X (binaryOp .FloorDiv) (rI CDivF fun i j => .int (Int.fdiv i j)) := opI fun i j _ _ _ _ _ hc q => PyProof.Rows.floordiv_int hc.1 q (.inl (PyProof.noPylong_of_log2 hc.2))
theorem iop_fdivF {X : Cx} : OpR X (inplaceOp .FloorDiv) (rI CDivF fun i j => .int (Int.fdiv i j)) := opI fun i j _ _ _ _ _ hc q => PyProof.Rows.ifloordiv_int hc.1 q (.inl (PyProof.noPylong_of_log2 hc.2))
theorem vo_div : VO (rI CDivF fun i j => .int (Int.fdiv i j)) rInt rInt rInt divG := fun c F cs H v w a b d k r1 r2 q Q hQ => by
  unfold divG at q
  split at q
  · rename_i h
    cases q
    exact ⟨a, b, r1, r2, ⟨by omega, h.2⟩, hQ _ F H (Evl.Ex.refl _) k (congrArg V.int (Int.fdiv_eq_ediv_of_nonneg a (show 0 ≤ b by omega)))⟩
  · split at q
    · rename_i h
      cases q
      exact ⟨a, b, r1, r2, ⟨by omega, h.2⟩, hQ _ F H (Evl.Ex.refl _) k rfl⟩
    · cases q
theorem vo_mod : VO (rI (fun _ j => 0 < j) fun i j => .int (i % j)) rInt rInt rInt modG := fun c F cs H v w a b d k r1 r2 q Q hQ => by
  unfold modG at q
  split at q
  · rename_i h
    cases q
    exact ⟨a, b, r1, r2, h, hQ _ F H (Evl.Ex.refl _) k rfl⟩
  · cases q
theorem vo_pow : VO (rI CPow fun i j => .int (i ^ j.toNat)) rInt rInt rInt powG := fun c F cs H v w a b d k r1 r2 q Q hQ => by
  unfold powG at q
  split at q
  · rename_i h
    cases q
    exact ⟨a, b, r1, r2, h, hQ _ F H (Evl.Ex.refl _) k rfl⟩
  · cases q
theorem vo_lt : VO (rI0 fun i j => .bl (decide (i < j))) rInt rInt rBool ltG := fun c F cs H v w a b d k r1 r2 q Q hQ => by
  cases q; exact ⟨a, b, r1, r2, hQ _ F H (Evl.Ex.refl _) k rfl⟩
theorem vo_le : VO (rI0 fun i j => .bl (decide (i ≤ j))) rInt rInt rBool leG := fun c F cs H v w a b d k r1 r2 q Q hQ => by
  cases q; exact ⟨a, b, r1, r2, hQ _ F H (Evl.Ex.refl _) k rfl⟩
theorem vo_gt : VO (rI0 fun i j => .bl (decide (j < i))) rInt rInt rBool gtG := fun c F cs H v w a b d k r1 r2 q Q hQ => by
  cases q; exact ⟨a, b, r1, r2, hQ _ F H (Evl.Ex.refl _) k rfl⟩
theorem vo_ge : VO (rI0 fun i j => .bl (decide (j ≤ i))) rInt rInt rBool geG := fun c F cs H v w a b d k r1 r2 q Q hQ => by
  cases q; exact ⟨a, b, r1, r2, hQ _ F H (Evl.Ex.refl _) k rfl⟩
theorem dec_int {a b : Int} : decide (V.int a = V.int b) = decide (a = b) := by
  by_cases h : a = b
  · rw [decide_eq_true h, decide_eq_true (congrArg V.int h)]
  · rw [decide_eq_false h, decide_eq_false fun e => h (V.int.inj e)]
theorem dec_bl {a b : Bool} : decide (V.bl a = V.bl b) = decide (a = b) := by
  by_cases h : a = b
  · rw [decide_eq_true h, decide_eq_true (congrArg V.bl h)]
  · rw [decide_eq_false h, decide_eq_false fun e => h (V.bl.inj e)]
theorem dec_str {a b : Str} : decide (V.str a = V.str b) = decide (a = b) := by
  by_cases h : a = b
  · rw [decide_eq_true h, decide_eq_true (congrArg V.str h)]
  · rw [decide_eq_false h, decide_eq_false fun e => h (V.str.inj e)]
theorem vo_eqI : VO rEq rInt rInt rBool eqG := fun c F cs H v w a b d k r1 r2 q Q hQ => by
  cases r1; cases r2; cases q
  exact ⟨rfl, hQ _ F H (Evl.Ex.refl _) k (congrArg V.bl dec_int)⟩
theorem vo_neI : VO rNe rInt rInt rBool neG := fun c F cs H v w a b d k r1 r2 q Q hQ => by
  cases r1; cases r2; cases q
  exact ⟨rfl, hQ _ F H (Evl.Ex.refl _) k (congrArg V.bl (congrArg (fun z => !z) dec_int))⟩
theorem vo_eqB : VO rEq rBool rBool rBool eqG := fun c F cs H v w a b d k r1 r2 q Q hQ => by
  cases r1; cases r2; cases q
  exact ⟨rfl, hQ _ F H (Evl.Ex.refl _) k (congrArg V.bl dec_bl)⟩
theorem vo_neB : VO rNe rBool rBool rBool neG := fun c F cs H v w a b d k r1 r2 q Q hQ => by
  cases r1; cases r2; cases q
  exact ⟨rfl, hQ _ F H (Evl.Ex.refl _) k (congrArg V.bl (congrArg (fun z => !z) dec_bl))⟩
theorem vo_eqS : VO rEq rStr rStr rBool eqG := fun c F cs H v w a b d k r1 r2 q Q hQ => by
  cases r1; cases r2; cases q
  exact ⟨rfl, hQ _ F H (Evl.Ex.refl _) k (congrArg V.bl dec_str)⟩
theorem vo_neS : VO rNe rStr rStr rBool neG := fun c F cs H v w a b d k r1 r2 q Q hQ => by
  cases r1; cases r2; cases q
  exact ⟨rfl, hQ _ F H (Evl.Ex.refl _) k (congrArg V.bl (congrArg (fun z => !z) dec_str))⟩
theorem vu_neg : VU (rU fun i => .int (-i)) rInt rInt negG := fun c F cs H v a d k r1 q Q hQ => by
  cases q; exact ⟨a, r1, hQ _ F H (Evl.Ex.refl _) k rfl⟩
theorem vc_abs : VC (fun xs H Q => ∃ i, xs = [.int i] ∧ Q (.int (if i < 0 then -i else i)) H) rInt rInt absG := fun c F cs H v a d k r1 q Q hQ => by
  cases q; cases r1; exact ⟨a, rfl, hQ _ F H (Evl.Ex.refl _) k rfl⟩
theorem vc_int : VC (fun xs H Q => (∃ i, xs = [.int i] ∧ Q (.int i) H) ∨ ∃ k, xs = [.bl k] ∧ Q (.int (if k then 1 else 0)) H) rInt rInt some := fun c F cs H v a d k r1 q Q hQ => by
  cases q; cases r1; exact .inl ⟨a, rfl, hQ _ F H (Evl.Ex.refl _) k rfl⟩
theorem vc_intB : VC (fun xs H Q => (∃ i, xs = [.int i] ∧ Q (.int i) H) ∨ ∃ k, xs = [.bl k] ∧ Q (.int (if k then 1 else 0)) H) rBool rInt (fun b => some (b2i b)) := fun c F cs H v a d k r1 q Q hQ => by
  cases q; cases r1; exact .inr ⟨a, rfl, hQ _ F H (Evl.Ex.refl _) k rfl⟩
theorem vc_max : VC2 (fun xs H Q => ∃ i j, xs = [.int i, .int j] ∧ Q (.int (if j > i then j else i)) H) rInt rInt rInt maxG := fun c F cs H v w a b d k r1 r2 q Q hQ => by
  cases q; cases r1; cases r2; exact ⟨a, b, rfl, hQ _ F H (Evl.Ex.refl _) k rfl⟩
theorem vc_min : VC2 (fun xs H Q => ∃ i j, xs = [.int i, .int j] ∧ Q (.int (if j < i then j else i)) H) rInt rInt rInt minG := fun c F cs H v w a b d k r1 r2 q Q hQ => by
  cases q; cases r1; cases r2; exact ⟨a, b, rfl, hQ _ F H (Evl.Ex.refl _) k rfl⟩
end

/-! ### lists as operands: frozen ones and owned cells -/
/-- v is a list of ds: a frozen one, or one of the cells -/
def LV {α : Type} (K : PySem.W.Frag) (ra : Rp α) (cs : Cs) (F : Hp) (v : V) (ds : List α) : Prop := ((rLst ra).r F v ds ∨ (rLsW K ra).r F v ds) ∨ ∃ p, v = .ref p ∧ (p, cLst ra ds) ∈ cs
def EL {α : Type} (K : PySem.W.Frag) (ra : Rp α) (te : TE) (σ : L2.St) (F : Hp) (cs : Cs) (m : Option (List α)) : Prop := ∀ d, m = some d → ∀ c F1 H, Ex F F1 → Cov c F1 cs H → ∀ Q : VK, (∀ v F2 H2, Ex F1 F2 → Cov c F2 cs H2 → LV K ra cs F2 v d → Q v H2) → te σ H Q
section
variable {α β γ : Type} {K : PySem.W.Frag} {ra : Rp α} {rb : Rp β} {rc : Rp γ} {cs : Cs} {F F' H : Hp} {v : V} {ds : List α} {c : Act} {σ : L2.St} {ta tb te : TE} {ma : Option (List α)} {mb : Option β}
theorem LV.up (h : LV K ra cs F v ds) (e : Ex F F') : LV K ra cs F' v ds := h.imp (fun q => q.imp ((rLst ra).up e) ((rLsW K ra).up e)) fun q => q
theorem LV.see (h : LV K ra cs F v ds) (k : Cov c F cs H) : ∃ a vs, v = .ref a ∧ SqL K H a vs ∧ Rs ra F vs ds := by
  rcases h with (⟨a, vs, h1, h2, h3⟩ | ⟨a, vs, h1, h2, h3⟩) | ⟨p, h1, h2⟩
  · exact ⟨a, vs, h1, SqL.of (k.ex _ _ h2), h3⟩
  · exact ⟨a, vs, h1, Evl.ex_l k.ex h2, h3⟩
  · obtain ⟨_, _, o, h3, vs, rfl, h4⟩ := k.cell _ h2
    exact ⟨p, vs, h1, SqL.of h3, h4⟩
theorem EM.el (h : EM (rLst ra) te σ F cs ma) : EL K ra te σ F cs ma := fun d q c F1 H e k Q hQ => h d q c F1 H e k Q fun v F2 H2 e2 k2 r2 => hQ v F2 H2 e2 k2 (.inl (.inl r2))
theorem EM.elw (h : EM (rLsW K ra) te σ F cs ma) : EL K ra te σ F cs ma := fun d q c F1 H e k Q hQ => h d q c F1 H e k Q fun v F2 H2 e2 k2 r2 => hQ v F2 H2 e2 k2 (.inl (.inr r2))
/-- a cell, read -/
theorem el_cell {i j : Nat} {p : Addr} (h : σ[i]? = some (some (.ref p))) (hj : cs[j]? = some (p, cLst ra ds)) : EL K ra (tVar i) σ F cs (some ds) := fun d q c F1 H e k Q hQ => by
  cases q
  exact ⟨_, h, hQ _ F1 H (Evl.Ex.refl _) k (.inr ⟨p, rfl, List.mem_of_getElem? hj⟩)⟩
theorem rs_get {vs : List V} {ds : List α} (h : Rs ra F vs ds) : ∀ {i : Nat} {d : α}, ds[i]? = some d → ∃ v, vs[i]? = some v ∧ ra.r F v d := by
  induction h with
  | nil => intro i d e; simp at e
  | cons r t ih =>
    intro i d e
    cases i with
    | zero => simp at e; subst e; exact ⟨_, rfl, r⟩
    | succ i => simp at e; obtain ⟨v, h1, h2⟩ := ih e; exact ⟨v, by simpa using h1, h2⟩
theorem rs_get' {vs : List V} {ds : List α} (h : Rs ra F vs ds) : ∀ {i : Nat} {v : V}, vs[i]? = some v → ∃ d, ds[i]? = some d ∧ ra.r F v d := by
  induction h with
  | nil => intro i d e; simp at e
  | cons r t ih =>
    intro i d e
    cases i with
    | zero => simp at e; subst e; exact ⟨_, rfl, r⟩
    | succ i => simp at e; obtain ⟨v, h1, h2⟩ := ih e; exact ⟨v, by simpa using h1, h2⟩
theorem rs_at {vs : List V} {ds : List α} (h : Rs ra F vs ds) {i : Int} {d : α} (e : ixG ds i = some d) : ∃ v, atI vs i = some v ∧ ra.r F v d := by
  unfold ixG atI at e
  unfold atI
  rw [h.length]
  cases q : ixN ds.length i with
  | none => rw [q] at e; cases e
  | some j => rw [q] at e; exact rs_get h e
theorem Rs.append {vs ws : List V} {ds es : List α} (h : Rs ra F vs ds) (g : Rs ra F ws es) : Rs ra F (vs ++ ws) (ds ++ es) := by
  induction h with
  | nil => exact g
  | cons r t ih => exact .cons r ih
theorem Rs.take {vs : List V} {ds : List α} (n : Nat) (h : Rs ra F vs ds) : Rs ra F (vs.take n) (ds.take n) := by
  induction h generalizing n with
  | nil => rw [List.take_nil, List.take_nil]; exact .nil
  | cons r t ih => cases n with
    | zero => exact .nil
    | succ n => exact .cons r (ih n)
theorem Rs.drop {vs : List V} {ds : List α} (n : Nat) (h : Rs ra F vs ds) : Rs ra F (vs.drop n) (ds.drop n) := by
  induction h generalizing n with
  | nil => rw [List.drop_nil, List.drop_nil]; exact .nil
  | cons r t ih => cases n with
    | zero => exact .cons r t
    | succ n => exact ih n
theorem Rs.set {vs : List V} {ds : List α} {v : V} {d : α} (n : Nat) (h : Rs ra F vs ds) (r : ra.r F v d) : Rs ra F (vs.set n v) (ds.set n d) := by
  induction h generalizing n with
  | nil => exact .nil
  | cons r' t ih => cases n with
    | zero => exact .cons r t
    | succ n => exact .cons r' (ih n)
theorem Rs.snoc {vs : List V} {ds : List α} {v : V} {d : α} (h : Rs ra F vs ds) (r : ra.r F v d) : Rs ra F (vs ++ [v]) (ds ++ [d]) := h.append (.cons r .nil)
theorem Rs.rev {vs : List V} {ds : List α} (h : Rs ra F vs ds) : Rs ra F vs.reverse ds.reverse := by
  induction h with
  | nil => exact .nil
  | cons r t ih => rw [List.reverse_cons, List.reverse_cons]; exact ih.snoc r
theorem Rs.rep {vs : List V} {ds : List α} (h : Rs ra F vs ds) : ∀ n, Rs ra F (List.replicate n vs).flatten (List.replicate n ds).flatten
  | 0 => .nil
  | n + 1 => by
    rw [List.replicate_succ, List.replicate_succ, List.flatten_cons, List.flatten_cons]
    exact h.append (Rs.rep h n)
theorem Rs.cut {vs : List V} {ds : List α} (h : Rs ra F vs ds) (lo hi : Option Int) : Rs ra F (cutV vs lo hi) (cut ds lo hi) := by
  unfold cutV Mw.cut
  rw [h.length]
  exact (h.drop _).take _
theorem rs_map {f : β → α} {g : β → V} (h : ∀ b, ra.r F (g b) (f b)) : ∀ l : List β, Rs ra F (l.map g) (l.map f)
  | [] => .nil
  | b :: l => .cons (h b) (rs_map h l)
theorem rs_int : ∀ {vs : List V} {ns : List Int}, Rs rInt F vs ns → vs = ns.map V.int
  | _, _, .nil => rfl
  | _, _, .cons r t => by cases r; rw [List.map_cons, rs_int t]
theorem int_rs : ∀ {ns : List Int}, Rs rInt F (ns.map V.int) ns
  | [] => .nil
  | _ :: _ => .cons rfl int_rs
theorem rs_bool : ∀ {vs : List V} {ns : List Bool}, Rs rBool F vs ns → vs = ns.map V.bl
  | _, _, .nil => rfl
  | _, _, .cons r t => by cases r; rw [List.map_cons, rs_bool t]
/-! what is done with a list -/
theorem el_ix (ha : EL K ra ta σ F cs ma) {mi : Option Int} (hb : EM rInt tb σ F cs mi) : EM ra (tOp (rIxL K) ta tb) σ F cs (o2 ixG ma mi) := fun d q c F1 H e k Q hQ => by
  obtain ⟨a, b, q1, q2, q3⟩ := o2_some q
  refine ha a q1 c F1 H e k _ fun x F2 H2 e2 k2 r2 => hb b q2 c F2 H2 (e.trans e2) k2 _ fun y F3 H3 e3 k3 r3 => ?_
  cases r3
  obtain ⟨p, vs, rfl, h1, h2⟩ := (r2.up e3).see k3
  obtain ⟨v, h3, h4⟩ := rs_at h2 q3
  exact ⟨p, vs, b, v, rfl, rfl, h1, h3, hQ v F3 H3 (e2.trans e3) k3 h4⟩
theorem el_len (ha : EL K ra ta σ F cs ma) : EM rInt (tCB (fun xs H Q => ∃ p ys, xs = [.ref p] ∧ (SqL K H p ys ∨ SqT K H p ys) ∧ Q (.int ys.length) H) (tCons ta tNil)) σ F cs (o1 lenG ma) := fun d q c F1 H e k Q hQ => by
  obtain ⟨a, q1, q3⟩ := o1_some q
  cases q3
  refine ha a q1 c F1 H e k _ fun x F2 H2 e2 k2 r2 => ?_
  obtain ⟨p, vs, rfl, h1, h2⟩ := r2.see k2
  exact ⟨p, vs, rfl, .inl h1, hQ _ F2 H2 e2 k2 (by rw [h2.length] <;> rfl)⟩
theorem et_len {m : Option (List α)} (ha : EM (rTup K ra) ta σ F cs m) : EM rInt (tCB (fun xs H Q => ∃ p ys, xs = [.ref p] ∧ (SqL K H p ys ∨ SqT K H p ys) ∧ Q (.int ys.length) H) (tCons ta tNil)) σ F cs (o1 lenG m) := fun d q c F1 H e k Q hQ => by
  obtain ⟨a, q1, q3⟩ := o1_some q
  cases q3
  refine ha a q1 c F1 H e k _ fun x F2 H2 e2 k2 r2 => ?_
  obtain ⟨p, vs, rfl, h1, h2⟩ := r2
  exact ⟨p, vs, rfl, .inr (ext_ k2.ex h1), hQ _ F2 H2 e2 k2 (by rw [h2.length] <;> rfl)⟩
theorem et_ix {m : Option (List α)} (ha : EM (rTup K ra) ta σ F cs m) {mi : Option Int} (hb : EM rInt tb σ F cs mi) : EM ra (tOp (rIxT K) ta tb) σ F cs (o2 ixG m mi) := fun d q c F1 H e k Q hQ => by
  obtain ⟨a, b, q1, q2, q3⟩ := o2_some q
  refine ha a q1 c F1 H e k _ fun x F2 H2 e2 k2 r2 => hb b q2 c F2 H2 (e.trans e2) k2 _ fun y F3 H3 e3 k3 r3 => ?_
  cases r3
  obtain ⟨p, vs, rfl, h1, h2⟩ := (rTup K ra).up e3 r2
  obtain ⟨v, h3, h4⟩ := rs_at h2 q3
  exact ⟨p, vs, b, v, rfl, rfl, ext_ k3.ex h1, h3, hQ v F3 H3 (e2.trans e3) k3 h4⟩
/-- tuple(xs) of a list -/
theorem el_tuple (ha : EL K ra ta σ F cs ma) : EM (rTup K ra) (tCB (fun xs H Q => ∃ p ys, xs = [.ref p] ∧ ((SqL K H p ys ∧ ∀ l, H l = none → Q (.ref l) (upd H l (.tup ys))) ∨ (SqT K H p ys ∧ Q (.ref p) H))) (tCons ta tNil)) σ F cs ma := fun d q c F1 H e k Q hQ => by
  refine ha d q c F1 H e k _ fun x F2 H2 e2 k2 r2 => ?_
  obtain ⟨p, vs, rfl, h1, h2⟩ := r2.see k2
  exact ⟨p, vs, rfl, .inl ⟨h1, fun l hl => hQ (.ref l) _ _ (e2.trans (Ex.new (k2.fnone hl))) (k2.lay hl) ⟨l, vs, rfl, upd_same, Rs.up (Ex.new (k2.fnone hl)) h2⟩⟩⟩
/-- tuple(t) of a tuple -/
theorem et_tuple {m : Option (List α)} (ha : EM (rTup K ra) ta σ F cs m) : EM (rTup K ra) (tCB (fun xs H Q => ∃ p ys, xs = [.ref p] ∧ ((SqL K H p ys ∧ ∀ l, H l = none → Q (.ref l) (upd H l (.tup ys))) ∨ (SqT K H p ys ∧ Q (.ref p) H))) (tCons ta tNil)) σ F cs m := fun d q c F1 H e k Q hQ => by
  refine ha d q c F1 H e k _ fun x F2 H2 e2 k2 r2 => ?_
  obtain ⟨p, vs, rfl, h1, h2⟩ := id r2
  exact ⟨p, vs, rfl, .inr ⟨ext_ k2.ex h1, hQ _ F2 H2 e2 k2 r2⟩⟩
/-- list(xs) -/
theorem ef_list (ha : EL K ra ta σ F cs ma) : EF ra (tCB (fun xs H Q => ∃ p ys, xs = [.ref p] ∧ (SqL K H p ys ∨ SqT K H p ys) ∧ ∀ l, H l = none → Q (.ref l) (upd H l (.lst ys))) (tCons ta tNil)) σ F cs ma := fun d q c F1 H e k Q hQ => by
  refine ha d q c F1 H e k _ fun x F2 H2 e2 k2 r2 => ?_
  obtain ⟨p, vs, rfl, h1, h2⟩ := r2.see k2
  exact ⟨p, vs, rfl, .inl h1, fun l hl => hQ l F2 _ e2 (k2.own hl ⟨vs, rfl, h2⟩) (k2.dom l hl)⟩
/-- parts of a slice -/
def EO (to : TO) (σ : L2.St) (F : Hp) (cs : Cs) (m : Option (Option Int)) : Prop := ∀ d, m = some d → ∀ c F1 H, Ex F F1 → Cov c F1 cs H → ∀ Q : Option Int → Hp → Prop, (∀ F2 H2, Ex F1 F2 → Cov c F2 cs H2 → Q d H2) → to σ H Q
theorem eo_none : EO tNoPart σ F cs (some none) := fun d q c F1 H e k Q hQ => by cases q; exact hQ F1 H (Evl.Ex.refl _) k
theorem eo_some {m : Option Int} (h : EM rInt te σ F cs m) : EO (tPart te) σ F cs (m.map some) := fun d q c F1 H e k Q hQ => by
  cases m with
  | none => cases q
  | some i =>
    cases q
    exact h i rfl c F1 H e k _ fun v F2 H2 e2 k2 r2 => ⟨i, r2, hQ F2 H2 e2 k2⟩
def oCut {α : Type} (m : Option (List α)) (lo hi : Option (Option Int)) : Option (List α) := m.bind fun l => lo.bind fun a => hi.bind fun b => some (cut l a b)
theorem oCut_some {α : Type} {m : Option (List α)} {lo hi : Option (Option Int)} {d : List α} (h : oCut m lo hi = some d) : ∃ l a b, m = some l ∧ lo = some a ∧ hi = some b ∧ d = cut l a b := by
  obtain ⟨l, h1, h⟩ := bind_some h
  obtain ⟨a, h2, h⟩ := bind_some h
  obtain ⟨b, h3, h⟩ := bind_some h
  cases h
  exact ⟨l, a, b, h1, h2, h3, rfl⟩
theorem ef_slice {tl th : TO} {lo hi : Option (Option Int)} (ha : EL K ra ta σ F cs ma) (h1 : EO tl σ F cs lo) (h2 : EO th σ F cs hi) : EF ra (tSl (rSlL K) ta tl th) σ F cs (oCut ma lo hi) := fun d q c F1 H e k Q hQ => by
  obtain ⟨l, a, b, q1, q2, q3, rfl⟩ := oCut_some q
  refine ha l q1 c F1 H e k _ fun x F2 H2 e2 k2 r2 => h1 a q2 c F2 H2 (e.trans e2) k2 _ fun F3 H3 e3 k3 => h2 b q3 c F3 H3 ((e.trans e2).trans e3) k3 _ fun F4 H4 e4 k4 => ?_
  obtain ⟨p, vs, rfl, h1, h2⟩ := (r2.up (e3.trans e4)).see k4
  exact ⟨p, vs, rfl, h1, fun l hl => hQ l F4 _ ((e2.trans e3).trans e4) (k4.own hl ⟨_, rfl, h2.cut a b⟩) (k4.dom l hl)⟩
/-! lists that are the call's own: frozen or cells -/
def LS {α : Type} (ra : Rp α) (cs : Cs) (F : Hp) (v : V) (ds : List α) : Prop := (rLst ra).r F v ds ∨ ∃ p, v = .ref p ∧ (p, cLst ra ds) ∈ cs
def ES {α : Type} (ra : Rp α) (te : TE) (σ : L2.St) (F : Hp) (cs : Cs) (m : Option (List α)) : Prop := ∀ d, m = some d → ∀ c F1 H, Ex F F1 → Cov c F1 cs H → ∀ Q : VK, (∀ v F2 H2, Ex F1 F2 → Cov c F2 cs H2 → LS ra cs F2 v d → Q v H2) → te σ H Q
theorem LS.up (h : LS ra cs F v ds) (e : Ex F F') : LS ra cs F' v ds := h.imp ((rLst ra).up e) fun q => q
theorem LS.see (h : LS ra cs F v ds) (k : Cov c F cs H) : ∃ a vs, v = .ref a ∧ H a = some (.lst vs) ∧ Rs ra F vs ds := by
  rcases h with ⟨a, vs, h1, h2, h3⟩ | ⟨p, h1, h2⟩
  · exact ⟨a, vs, h1, k.ex _ _ h2, h3⟩
  · obtain ⟨_, _, o, h3, vs, rfl, h4⟩ := k.cell _ h2
    exact ⟨p, vs, h1, h3, h4⟩
theorem EM.es (h : EM (rLst ra) te σ F cs ma) : ES ra te σ F cs ma := fun d q c F1 H e k Q hQ => h d q c F1 H e k Q fun v F2 H2 e2 k2 r2 => hQ v F2 H2 e2 k2 (.inl r2)
theorem es_cell {i j : Nat} {p : Addr} (h : σ[i]? = some (some (.ref p))) (hj : cs[j]? = some (p, cLst ra ds)) : ES ra (tVar i) σ F cs (some ds) := fun d q c F1 H e k Q hQ => by
  cases q
  exact ⟨_, h, hQ _ F1 H (Evl.Ex.refl _) k (.inr ⟨p, rfl, List.mem_of_getElem? hj⟩)⟩
theorem catG_some {a b d : List α} (h : catG a b = some d) : d = a ++ b ∧ a.length + b.length ≤ 16000000 := by
  unfold catG at h
  split at h
  · cases h; exact ⟨rfl, by assumption⟩
  · cases h
theorem ef_cat {m1 m2 : Option (List α)} (ha : ES ra ta σ F cs m1) (hb : ES ra tb σ F cs m2) : EF ra (tOp rCat ta tb) σ F cs (o2 catG m1 m2) := fun d q c F1 H e k Q hQ => by
  obtain ⟨a, b, q1, q2, q3⟩ := o2_some q
  obtain ⟨rfl, hz⟩ := catG_some q3
  refine ha a q1 c F1 H e k _ fun x F2 H2 e2 k2 r2 => hb b q2 c F2 H2 (e.trans e2) k2 _ fun y F3 H3 e3 k3 r3 => ?_
  obtain ⟨p, vs, rfl, h1, h2⟩ := (r2.up e3).see k3
  obtain ⟨p', ws, rfl, h1', h2'⟩ := r3.see k3
  exact ⟨p, p', vs, ws, rfl, rfl, h1, h1', sz_ok (by rw [h2.length, h2'.length]; exact hz), fun l hl => hQ l F3 _ (e2.trans e3) (k3.own hl ⟨_, rfl, h2.append h2'⟩) (k3.dom l hl)⟩
theorem repG_some {a d : List α} {n : Int} (h : repG a n = some d) : d = (List.replicate n.toNat a).flatten ∧ -(2 ^ 63) ≤ n ∧ n < 2 ^ 20 ∧ a.length ≤ 15 := by
  unfold repG at h
  split at h
  · rename_i q
    cases h; exact ⟨rfl, q⟩
  · cases h
theorem ef_rep {m1 : Option (List α)} {mi : Option Int} (ha : ES ra ta σ F cs m1) (hb : EM rInt tb σ F cs mi) : EF ra (tOp rRep ta tb) σ F cs (o2 repG m1 mi) := fun d q c F1 H e k Q hQ => by
  obtain ⟨a, b, q1, q2, q3⟩ := o2_some q
  obtain ⟨rfl, g, hz, hl⟩ := repG_some q3
  refine ha a q1 c F1 H e k _ fun x F2 H2 e2 k2 r2 => hb b q2 c F2 H2 (e.trans e2) k2 _ fun y F3 H3 e3 k3 r3 => ?_
  cases r3
  obtain ⟨p, vs, rfl, h1, h2⟩ := (r2.up e3).see k3
  refine ⟨p, b, vs, rfl, rfl, h1, g, by omega, ?_, fun l hl => hQ l F3 _ (e2.trans e3) (k3.own hl ⟨_, rfl, h2.rep _⟩) (k3.dom l hl)⟩
  rw [h2.length]
  have z : a.length * b.toNat ≤ 15 * 2 ^ 20 := Nat.mul_le_mul hl (by omega)
  exact sz_ok (by omega)
end
end Mw

set_option maxHeartbeats 2000000
namespace Mw
open PySem L2
open Evl (Ex)
/-! ### S: what an expression computes while it changes a cell -/
def SM {α γ : Type} (ra : Rp α) (te : TE) (σ : L2.St) (F : Hp) (cs : Cs) (m : Option (α × γ)) (cs' : γ → Cs) : Prop := ∀ d g, m = some (d, g) → ∀ c F1 H, Ex F F1 → Cov c F1 cs H → ∀ Q : VK, (∀ v F2 H2, Ex F1 F2 → Cov c F2 (cs' g) H2 → ra.r F2 v d → Q v H2) → te σ H Q
def SF {α γ : Type} (ra : Rp α) (te : TE) (σ : L2.St) (F : Hp) (cs : Cs) (m : Option (List α × γ)) (cs' : γ → Cs) : Prop := ∀ d g, m = some (d, g) → ∀ c F1 H, Ex F F1 → Cov c F1 cs H → ∀ Q : VK, (∀ p F2 H2, Ex F1 F2 → Cov c F2 (cs' g ++ [(p, cLst ra d)]) H2 → c.H0 p = none → Q (.ref p) H2) → te σ H Q
def SA {α γ : Type} (ra : Rp α) (ta : TA) (σ : L2.St) (F : Hp) (cs : Cs) (m : Option (List α × γ)) (cs' : γ → Cs) : Prop := ∀ d g, m = some (d, g) → ∀ c F1 H, Ex F F1 → Cov c F1 cs H → ∀ Q : List V → Hp → Prop, (∀ vs F2 H2, Ex F1 F2 → Cov c F2 (cs' g) H2 → Rs ra F2 vs d → Q vs H2) → ta σ H Q
def ST {γ : Type} (tt : TT) (σ : L2.St) (F : Hp) (cs : Cs) (m : Option (Bool × γ)) (cs' : γ → Cs) : Prop := ∀ d g, m = some (d, g) → ∀ c F1 H, Ex F F1 → Cov c F1 cs H → ∀ Q : Bool → Hp → Prop, (∀ F2 H2, Ex F1 F2 → Cov c F2 (cs' g) H2 → Q d H2) → tt σ H Q
def sP {α γ : Type} (m : Option α) (s : γ) : Option (α × γ) := m.bind fun x => some (x, s)
theorem sP_some {α γ : Type} {m : Option α} {s g : γ} {d : α} (h : sP m s = some (d, g)) : m = some d ∧ g = s := by
  cases m with
  | none => cases h
  | some x => cases h; exact ⟨rfl, rfl⟩
def sC {α γ : Type} (x : Option (α × γ)) (f : α → γ → Option (β × γ)) : Option (β × γ) := x.bind fun p => f p.1 p.2
theorem sC_some {α β γ : Type} {x : Option (α × γ)} {f : α → γ → Option (β × γ)} {d : β × γ} (h : sC x f = some d) : ∃ a g, x = some (a, g) ∧ f a g = some d := by
  cases x with
  | none => cases h
  | some p => exact ⟨p.1, p.2, rfl, h⟩
/-- a part's outcome, then what is kept of the state -/
def sK {α γ : Type} (s : γ) (m : Option α) : Option (α × γ) := m.bind fun x => some (x, s)

def s1 {α1 ρ γ : Type} (f : α1 → γ → Option (ρ × γ)) (m1 : Option (α1 × γ)) : Option (ρ × γ) := sC (m1) fun a1 s1 => f a1 s1
def Psp1 {α1 ρ : Type} (r1 : Rp α1) (rr : Rp ρ) (m : α1 → Option (ρ)) : Sp := fun vs H Q _ => ∃ (F : Hp) (v1 : V) (a1 : α1) (d : ρ), vs = [v1] ∧ Ex F H ∧ r1.r F v1 a1 ∧ m a1 = some d ∧ ∀ v F2 H2, Cov ⟨H, F, []⟩ F2 [] H2 → rr.r F2 v d → Q v H2
theorem Psp1_len {α1 ρ : Type} {r1 : Rp α1} {rr : Rp ρ} {m : α1 → Option (ρ)} {vs : List V} {H : Hp} {Q : VK} {E : XK} (h : Psp1 r1 rr m vs H Q E) : vs.length = 1 := by
  obtain ⟨_, _, _, _, rfl, _⟩ := h
  rfl
def Fsp1 {α1 ρ : Type} (r1 : Rp α1) (rr : Rp ρ) (m : α1 → Option (List ρ)) : Sp := fun vs H Q _ => ∃ (F : Hp) (v1 : V) (a1 : α1) (d : List ρ), vs = [v1] ∧ Ex F H ∧ r1.r F v1 a1 ∧ m a1 = some d ∧ ∀ p F2 H2, Cov ⟨H, F, []⟩ F2 [(p, cLst rr d)] H2 → Q (.ref p) H2
theorem Fsp1_len {α1 ρ : Type} {r1 : Rp α1} {rr : Rp ρ} {m : α1 → Option (List ρ)} {vs : List V} {H : Hp} {Q : VK} {E : XK} (h : Fsp1 r1 rr m vs H Q E) : vs.length = 1 := by
  obtain ⟨_, _, _, _, rfl, _⟩ := h
  rfl
def MPsp1 {α1 ρ γ : Type} (cell : γ → Cp) (r1 : Rp α1) (rr : Rp ρ) (m : γ → α1 → Option (ρ × γ)) : Sp := fun vs H Q _ => ∃ (F : Hp) (p : Addr) (v1 : V) (s : γ) (a1 : α1) (d : ρ) (s2 : γ), vs = [.ref p, v1] ∧ Cov ⟨H, F, [p]⟩ F [(p, cell s)] H ∧ r1.r F v1 a1 ∧ m s a1 = some (d, s2) ∧ ∀ v F2 H2, Cov ⟨H, F, [p]⟩ F2 [(p, cell s2)] H2 → rr.r F2 v d → Q v H2
theorem MPsp1_len {α1 ρ γ : Type} {cell : γ → Cp} {r1 : Rp α1} {rr : Rp ρ} {m : γ → α1 → Option (ρ × γ)} {vs : List V} {H : Hp} {Q : VK} {E : XK} (h : MPsp1 cell r1 rr m vs H Q E) : vs.length = 2 := by
  obtain ⟨_, _, _, _, _, _, _, rfl, _⟩ := h
  rfl
def MFsp1 {α1 ρ γ : Type} (cell : γ → Cp) (r1 : Rp α1) (rr : Rp ρ) (m : γ → α1 → Option (List ρ × γ)) : Sp := fun vs H Q _ => ∃ (F : Hp) (p : Addr) (v1 : V) (s : γ) (a1 : α1) (d : List ρ) (s2 : γ), vs = [.ref p, v1] ∧ Cov ⟨H, F, [p]⟩ F [(p, cell s)] H ∧ r1.r F v1 a1 ∧ m s a1 = some (d, s2) ∧ ∀ q F2 H2, Cov ⟨H, F, [p]⟩ F2 [(p, cell s2), (q, cLst rr d)] H2 → Q (.ref q) H2
theorem MFsp1_len {α1 ρ γ : Type} {cell : γ → Cp} {r1 : Rp α1} {rr : Rp ρ} {m : γ → α1 → Option (List ρ × γ)} {vs : List V} {H : Hp} {Q : VK} {E : XK} (h : MFsp1 cell r1 rr m vs H Q E) : vs.length = 2 := by
  obtain ⟨_, _, _, _, _, _, _, rfl, _⟩ := h
  rfl
def s2 {α1 α2 ρ γ : Type} (f : α1 → α2 → γ → Option (ρ × γ)) (m1 : Option (α1 × γ)) (m2 : γ → Option (α2 × γ)) : Option (ρ × γ) := sC (m1) fun a1 s1 => sC (m2 s1) fun a2 s2 => f a1 a2 s2
def Psp2 {α1 α2 ρ : Type} (r1 : Rp α1) (r2 : Rp α2) (rr : Rp ρ) (m : α1 → α2 → Option (ρ)) : Sp := fun vs H Q _ => ∃ (F : Hp) (v1 v2 : V) (a1 : α1) (a2 : α2) (d : ρ), vs = [v1, v2] ∧ Ex F H ∧ r1.r F v1 a1 ∧ r2.r F v2 a2 ∧ m a1 a2 = some d ∧ ∀ v F2 H2, Cov ⟨H, F, []⟩ F2 [] H2 → rr.r F2 v d → Q v H2
theorem Psp2_len {α1 α2 ρ : Type} {r1 : Rp α1} {r2 : Rp α2} {rr : Rp ρ} {m : α1 → α2 → Option (ρ)} {vs : List V} {H : Hp} {Q : VK} {E : XK} (h : Psp2 r1 r2 rr m vs H Q E) : vs.length = 2 := by
  obtain ⟨_, _, _, _, _, _, rfl, _⟩ := h
  rfl
def Fsp2 {α1 α2 ρ : Type} (r1 : Rp α1) (r2 : Rp α2) (rr : Rp ρ) (m : α1 → α2 → Option (List ρ)) : Sp := fun vs H Q _ => ∃ (F : Hp) (v1 v2 : V) (a1 : α1) (a2 : α2) (d : List ρ), vs = [v1, v2] ∧ Ex F H ∧ r1.r F v1 a1 ∧ r2.r F v2 a2 ∧ m a1 a2 = some d ∧ ∀ p F2 H2, Cov ⟨H, F, []⟩ F2 [(p, cLst rr d)] H2 → Q (.ref p) H2
theorem Fsp2_len {α1 α2 ρ : Type} {r1 : Rp α1} {r2 : Rp α2} {rr : Rp ρ} {m : α1 → α2 → Option (List ρ)} {vs : List V} {H : Hp} {Q : VK} {E : XK} (h : Fsp2 r1 r2 rr m vs H Q E) : vs.length = 2 := by
  obtain ⟨_, _, _, _, _, _, rfl, _⟩ := h
  rfl
def MPsp2 {α1 α2 ρ γ : Type} (cell : γ → Cp) (r1 : Rp α1) (r2 : Rp α2) (rr : Rp ρ) (m : γ → α1 → α2 → Option (ρ × γ)) : Sp := fun vs H Q _ => ∃ (F : Hp) (p : Addr) (v1 v2 : V) (s : γ) (a1 : α1) (a2 : α2) (d : ρ) (s2 : γ), vs = [.ref p, v1, v2] ∧ Cov ⟨H, F, [p]⟩ F [(p, cell s)] H ∧ r1.r F v1 a1 ∧ r2.r F v2 a2 ∧ m s a1 a2 = some (d, s2) ∧ ∀ v F2 H2, Cov ⟨H, F, [p]⟩ F2 [(p, cell s2)] H2 → rr.r F2 v d → Q v H2
theorem MPsp2_len {α1 α2 ρ γ : Type} {cell : γ → Cp} {r1 : Rp α1} {r2 : Rp α2} {rr : Rp ρ} {m : γ → α1 → α2 → Option (ρ × γ)} {vs : List V} {H : Hp} {Q : VK} {E : XK} (h : MPsp2 cell r1 r2 rr m vs H Q E) : vs.length = 3 := by
  obtain ⟨_, _, _, _, _, _, _, _, _, rfl, _⟩ := h
  rfl
def MFsp2 {α1 α2 ρ γ : Type} (cell : γ → Cp) (r1 : Rp α1) (r2 : Rp α2) (rr : Rp ρ) (m : γ → α1 → α2 → Option (List ρ × γ)) : Sp := fun vs H Q _ => ∃ (F : Hp) (p : Addr) (v1 v2 : V) (s : γ) (a1 : α1) (a2 : α2) (d : List ρ) (s2 : γ), vs = [.ref p, v1, v2] ∧ Cov ⟨H, F, [p]⟩ F [(p, cell s)] H ∧ r1.r F v1 a1 ∧ r2.r F v2 a2 ∧ m s a1 a2 = some (d, s2) ∧ ∀ q F2 H2, Cov ⟨H, F, [p]⟩ F2 [(p, cell s2), (q, cLst rr d)] H2 → Q (.ref q) H2
theorem MFsp2_len {α1 α2 ρ γ : Type} {cell : γ → Cp} {r1 : Rp α1} {r2 : Rp α2} {rr : Rp ρ} {m : γ → α1 → α2 → Option (List ρ × γ)} {vs : List V} {H : Hp} {Q : VK} {E : XK} (h : MFsp2 cell r1 r2 rr m vs H Q E) : vs.length = 3 := by
  obtain ⟨_, _, _, _, _, _, _, _, _, rfl, _⟩ := h
  rfl
def o3 {α1 α2 α3 ρ : Type} (f : α1 → α2 → α3 → Option ρ) (m1 : Option α1) (m2 : Option α2) (m3 : Option α3) : Option ρ := m1.bind fun a1 => m2.bind fun a2 => m3.bind fun a3 => f a1 a2 a3
theorem o3_some {α1 α2 α3 ρ : Type} {f : α1 → α2 → α3 → Option ρ} {m1 : Option α1} {m2 : Option α2} {m3 : Option α3} {d : ρ} (h : o3 f m1 m2 m3 = some d) : ∃ a1 a2 a3, m1 = some a1 ∧ m2 = some a2 ∧ m3 = some a3 ∧ f a1 a2 a3 = some d := by
  obtain ⟨a1, q1, h⟩ := bind_some h
  obtain ⟨a2, q2, h⟩ := bind_some h
  obtain ⟨a3, q3, h⟩ := bind_some h
  exact ⟨a1, a2, a3, q1, q2, q3, h⟩
def s3 {α1 α2 α3 ρ γ : Type} (f : α1 → α2 → α3 → γ → Option (ρ × γ)) (m1 : Option (α1 × γ)) (m2 : γ → Option (α2 × γ)) (m3 : γ → Option (α3 × γ)) : Option (ρ × γ) := sC (m1) fun a1 s1 => sC (m2 s1) fun a2 s2 => sC (m3 s2) fun a3 s3 => f a1 a2 a3 s3
def Psp3 {α1 α2 α3 ρ : Type} (r1 : Rp α1) (r2 : Rp α2) (r3 : Rp α3) (rr : Rp ρ) (m : α1 → α2 → α3 → Option (ρ)) : Sp := fun vs H Q _ => ∃ (F : Hp) (v1 v2 v3 : V) (a1 : α1) (a2 : α2) (a3 : α3) (d : ρ), vs = [v1, v2, v3] ∧ Ex F H ∧ r1.r F v1 a1 ∧ r2.r F v2 a2 ∧ r3.r F v3 a3 ∧ m a1 a2 a3 = some d ∧ ∀ v F2 H2, Cov ⟨H, F, []⟩ F2 [] H2 → rr.r F2 v d → Q v H2
theorem Psp3_len {α1 α2 α3 ρ : Type} {r1 : Rp α1} {r2 : Rp α2} {r3 : Rp α3} {rr : Rp ρ} {m : α1 → α2 → α3 → Option (ρ)} {vs : List V} {H : Hp} {Q : VK} {E : XK} (h : Psp3 r1 r2 r3 rr m vs H Q E) : vs.length = 3 := by
  obtain ⟨_, _, _, _, _, _, _, _, rfl, _⟩ := h
  rfl
def Fsp3 {α1 α2 α3 ρ : Type} (r1 : Rp α1) (r2 : Rp α2) (r3 : Rp α3) (rr : Rp ρ) (m : α1 → α2 → α3 → Option (List ρ)) : Sp := fun vs H Q _ => ∃ (F : Hp) (v1 v2 v3 : V) (a1 : α1) (a2 : α2) (a3 : α3) (d : List ρ), vs = [v1, v2, v3] ∧ Ex F H ∧ r1.r F v1 a1 ∧ r2.r F v2 a2 ∧ r3.r F v3 a3 ∧ m a1 a2 a3 = some d ∧ ∀ p F2 H2, Cov ⟨H, F, []⟩ F2 [(p, cLst rr d)] H2 → Q (.ref p) H2
theorem Fsp3_len {α1 α2 α3 ρ : Type} {r1 : Rp α1} {r2 : Rp α2} {r3 : Rp α3} {rr : Rp ρ} {m : α1 → α2 → α3 → Option (List ρ)} {vs : List V} {H : Hp} {Q : VK} {E : XK} (h : Fsp3 r1 r2 r3 rr m vs H Q E) : vs.length = 3 := by
  obtain ⟨_, _, _, _, _, _, _, _, rfl, _⟩ := h
  rfl
def MPsp3 {α1 α2 α3 ρ γ : Type} (cell : γ → Cp) (r1 : Rp α1) (r2 : Rp α2) (r3 : Rp α3) (rr : Rp ρ) (m : γ → α1 → α2 → α3 → Option (ρ × γ)) : Sp := fun vs H Q _ => ∃ (F : Hp) (p : Addr) (v1 v2 v3 : V) (s : γ) (a1 : α1) (a2 : α2) (a3 : α3) (d : ρ) (s2 : γ), vs = [.ref p, v1, v2, v3] ∧ Cov ⟨H, F, [p]⟩ F [(p, cell s)] H ∧ r1.r F v1 a1 ∧ r2.r F v2 a2 ∧ r3.r F v3 a3 ∧ m s a1 a2 a3 = some (d, s2) ∧ ∀ v F2 H2, Cov ⟨H, F, [p]⟩ F2 [(p, cell s2)] H2 → rr.r F2 v d → Q v H2
theorem MPsp3_len {α1 α2 α3 ρ γ : Type} {cell : γ → Cp} {r1 : Rp α1} {r2 : Rp α2} {r3 : Rp α3} {rr : Rp ρ} {m : γ → α1 → α2 → α3 → Option (ρ × γ)} {vs : List V} {H : Hp} {Q : VK} {E : XK} (h : MPsp3 cell r1 r2 r3 rr m vs H Q E) : vs.length = 4 := by
  obtain ⟨_, _, _, _, _, _, _, _, _, _, _, rfl, _⟩ := h
  rfl
def MFsp3 {α1 α2 α3 ρ γ : Type} (cell : γ → Cp) (r1 : Rp α1) (r2 : Rp α2) (r3 : Rp α3) (rr : Rp ρ) (m : γ → α1 → α2 → α3 → Option (List ρ × γ)) : Sp := fun vs H Q _ => ∃ (F : Hp) (p : Addr) (v1 v2 v3 : V) (s : γ) (a1 : α1) (a2 : α2) (a3 : α3) (d : List ρ) (s2 : γ), vs = [.ref p, v1, v2, v3] ∧ Cov ⟨H, F, [p]⟩ F [(p, cell s)] H ∧ r1.r F v1 a1 ∧ r2.r F v2 a2 ∧ r3.r F v3 a3 ∧ m s a1 a2 a3 = some (d, s2) ∧ ∀ q F2 H2, Cov ⟨H, F, [p]⟩ F2 [(p, cell s2), (q, cLst rr d)] H2 → Q (.ref q) H2
theorem MFsp3_len {α1 α2 α3 ρ γ : Type} {cell : γ → Cp} {r1 : Rp α1} {r2 : Rp α2} {r3 : Rp α3} {rr : Rp ρ} {m : γ → α1 → α2 → α3 → Option (List ρ × γ)} {vs : List V} {H : Hp} {Q : VK} {E : XK} (h : MFsp3 cell r1 r2 r3 rr m vs H Q E) : vs.length = 4 := by
  obtain ⟨_, _, _, _, _, _, _, _, _, _, _, rfl, _⟩ := h
  rfl
def o4 {α1 α2 α3 α4 ρ : Type} (f : α1 → α2 → α3 → α4 → Option ρ) (m1 : Option α1) (m2 : Option α2) (m3 : Option α3) (m4 : Option α4) : Option ρ := m1.bind fun a1 => m2.bind fun a2 => m3.bind fun a3 => m4.bind fun a4 => f a1 a2 a3 a4
theorem o4_some {α1 α2 α3 α4 ρ : Type} {f : α1 → α2 → α3 → α4 → Option ρ} {m1 : Option α1} {m2 : Option α2} {m3 : Option α3} {m4 : Option α4} {d : ρ} (h : o4 f m1 m2 m3 m4 = some d) : ∃ a1 a2 a3 a4, m1 = some a1 ∧ m2 = some a2 ∧ m3 = some a3 ∧ m4 = some a4 ∧ f a1 a2 a3 a4 = some d := by
  obtain ⟨a1, q1, h⟩ := bind_some h
  obtain ⟨a2, q2, h⟩ := bind_some h
  obtain ⟨a3, q3, h⟩ := bind_some h
  obtain ⟨a4, q4, h⟩ := bind_some h
  exact ⟨a1, a2, a3, a4, q1, q2, q3, q4, h⟩
def s4 {α1 α2 α3 α4 ρ γ : Type} (f : α1 → α2 → α3 → α4 → γ → Option (ρ × γ)) (m1 : Option (α1 × γ)) (m2 : γ → Option (α2 × γ)) (m3 : γ → Option (α3 × γ)) (m4 : γ → Option (α4 × γ)) : Option (ρ × γ) := sC (m1) fun a1 s1 => sC (m2 s1) fun a2 s2 => sC (m3 s2) fun a3 s3 => sC (m4 s3) fun a4 s4 => f a1 a2 a3 a4 s4
def Psp4 {α1 α2 α3 α4 ρ : Type} (r1 : Rp α1) (r2 : Rp α2) (r3 : Rp α3) (r4 : Rp α4) (rr : Rp ρ) (m : α1 → α2 → α3 → α4 → Option (ρ)) : Sp := fun vs H Q _ => ∃ (F : Hp) (v1 v2 v3 v4 : V) (a1 : α1) (a2 : α2) (a3 : α3) (a4 : α4) (d : ρ), vs = [v1, v2, v3, v4] ∧ Ex F H ∧ r1.r F v1 a1 ∧ r2.r F v2 a2 ∧ r3.r F v3 a3 ∧ r4.r F v4 a4 ∧ m a1 a2 a3 a4 = some d ∧ ∀ v F2 H2, Cov ⟨H, F, []⟩ F2 [] H2 → rr.r F2 v d → Q v H2
theorem Psp4_len {α1 α2 α3 α4 ρ : Type} {r1 : Rp α1} {r2 : Rp α2} {r3 : Rp α3} {r4 : Rp α4} {rr : Rp ρ} {m : α1 → α2 → α3 → α4 → Option (ρ)} {vs : List V} {H : Hp} {Q : VK} {E : XK} (h : Psp4 r1 r2 r3 r4 rr m vs H Q E) : vs.length = 4 := by
  obtain ⟨_, _, _, _, _, _, _, _, _, _, rfl, _⟩ := h
  rfl
def Fsp4 {α1 α2 α3 α4 ρ : Type} (r1 : Rp α1) (r2 : Rp α2) (r3 : Rp α3) (r4 : Rp α4) (rr : Rp ρ) (m : α1 → α2 → α3 → α4 → Option (List ρ)) : Sp := fun vs H Q _ => ∃ (F : Hp) (v1 v2 v3 v4 : V) (a1 : α1) (a2 : α2) (a3 : α3) (a4 : α4) (d : List ρ), vs = [v1, v2, v3, v4] ∧ Ex F H ∧ r1.r F v1 a1 ∧ r2.r F v2 a2 ∧ r3.r F v3 a3 ∧ r4.r F v4 a4 ∧ m a1 a2 a3 a4 = some d ∧ ∀ p F2 H2, Cov ⟨H, F, []⟩ F2 [(p, cLst rr d)] H2 → Q (.ref p) H2
theorem Fsp4_len {α1 α2 α3 α4 ρ : Type} {r1 : Rp α1} {r2 : Rp α2} {r3 : Rp α3} {r4 : Rp α4} {rr : Rp ρ} {m : α1 → α2 → α3 → α4 → Option (List ρ)} {vs : List V} {H : Hp} {Q : VK} {E : XK} (h : Fsp4 r1 r2 r3 r4 rr m vs H Q E) : vs.length = 4 := by
  obtain ⟨_, _, _, _, _, _, _, _, _, _, rfl, _⟩ := h
  rfl
def MPsp4 {α1 α2 α3 α4 ρ γ : Type} (cell : γ → Cp) (r1 : Rp α1) (r2 : Rp α2) (r3 : Rp α3) (r4 : Rp α4) (rr : Rp ρ) (m : γ → α1 → α2 → α3 → α4 → Option (ρ × γ)) : Sp := fun vs H Q _ => ∃ (F : Hp) (p : Addr) (v1 v2 v3 v4 : V) (s : γ) (a1 : α1) (a2 : α2) (a3 : α3) (a4 : α4) (d : ρ) (s2 : γ), vs = [.ref p, v1, v2, v3, v4] ∧ Cov ⟨H, F, [p]⟩ F [(p, cell s)] H ∧ r1.r F v1 a1 ∧ r2.r F v2 a2 ∧ r3.r F v3 a3 ∧ r4.r F v4 a4 ∧ m s a1 a2 a3 a4 = some (d, s2) ∧ ∀ v F2 H2, Cov ⟨H, F, [p]⟩ F2 [(p, cell s2)] H2 → rr.r F2 v d → Q v H2
theorem MPsp4_len {α1 α2 α3 α4 ρ γ : Type} {cell : γ → Cp} {r1 : Rp α1} {r2 : Rp α2} {r3 : Rp α3} {r4 : Rp α4} {rr : Rp ρ} {m : γ → α1 → α2 → α3 → α4 → Option (ρ × γ)} {vs : List V} {H : Hp} {Q : VK} {E : XK} (h : MPsp4 cell r1 r2 r3 r4 rr m vs H Q E) : vs.length = 5 := by
  obtain ⟨_, _, _, _, _, _, _, _, _, _, _, _, _, rfl, _⟩ := h
  rfl
def MFsp4 {α1 α2 α3 α4 ρ γ : Type} (cell : γ → Cp) (r1 : Rp α1) (r2 : Rp α2) (r3 : Rp α3) (r4 : Rp α4) (rr : Rp ρ) (m : γ → α1 → α2 → α3 → α4 → Option (List ρ × γ)) : Sp := fun vs H Q _ => ∃ (F : Hp) (p : Addr) (v1 v2 v3 v4 : V) (s : γ) (a1 : α1) (a2 : α2) (a3 : α3) (a4 : α4) (d : List ρ) (s2 : γ), vs = [.ref p, v1, v2, v3, v4] ∧ Cov ⟨H, F, [p]⟩ F [(p, cell s)] H ∧ r1.r F v1 a1 ∧ r2.r F v2 a2 ∧ r3.r F v3 a3 ∧ r4.r F v4 a4 ∧ m s a1 a2 a3 a4 = some (d, s2) ∧ ∀ q F2 H2, Cov ⟨H, F, [p]⟩ F2 [(p, cell s2), (q, cLst rr d)] H2 → Q (.ref q) H2
theorem MFsp4_len {α1 α2 α3 α4 ρ γ : Type} {cell : γ → Cp} {r1 : Rp α1} {r2 : Rp α2} {r3 : Rp α3} {r4 : Rp α4} {rr : Rp ρ} {m : γ → α1 → α2 → α3 → α4 → Option (List ρ × γ)} {vs : List V} {H : Hp} {Q : VK} {E : XK} (h : MFsp4 cell r1 r2 r3 r4 rr m vs H Q E) : vs.length = 5 := by
  obtain ⟨_, _, _, _, _, _, _, _, _, _, _, _, _, rfl, _⟩ := h
  rfl
def o5 {α1 α2 α3 α4 α5 ρ : Type} (f : α1 → α2 → α3 → α4 → α5 → Option ρ) (m1 : Option α1) (m2 : Option α2) (m3 : Option α3) (m4 : Option α4) (m5 : Option α5) : Option ρ := m1.bind fun a1 => m2.bind fun a2 => m3.bind fun a3 => m4.bind fun a4 => m5.bind fun a5 => f a1 a2 a3 a4 a5
theorem o5_some {α1 α2 α3 α4 α5 ρ : Type} {f : α1 → α2 → α3 → α4 → α5 → Option ρ} {m1 : Option α1} {m2 : Option α2} {m3 : Option α3} {m4 : Option α4} {m5 : Option α5} {d : ρ} (h : o5 f m1 m2 m3 m4 m5 = some d) : ∃ a1 a2 a3 a4 a5, m1 = some a1 ∧ m2 = some a2 ∧ m3 = some a3 ∧ m4 = some a4 ∧ m5 = some a5 ∧ f a1 a2 a3 a4 a5 = some d := by
  obtain ⟨a1, q1, h⟩ := bind_some h
  obtain ⟨a2, q2, h⟩ := bind_some h
  obtain ⟨a3, q3, h⟩ := bind_some h
  obtain ⟨a4, q4, h⟩ := bind_some h
  obtain ⟨a5, q5, h⟩ := bind_some h
  exact ⟨a1, a2, a3, a4, a5, q1, q2, q3, q4, q5, h⟩
def s5 {α1 α2 α3 α4 α5 ρ γ : Type} (f : α1 → α2 → α3 → α4 → α5 → γ → Option (ρ × γ)) (m1 : Option (α1 × γ)) (m2 : γ → Option (α2 × γ)) (m3 : γ → Option (α3 × γ)) (m4 : γ → Option (α4 × γ)) (m5 : γ → Option (α5 × γ)) : Option (ρ × γ) := sC (m1) fun a1 s1 => sC (m2 s1) fun a2 s2 => sC (m3 s2) fun a3 s3 => sC (m4 s3) fun a4 s4 => sC (m5 s4) fun a5 s5 => f a1 a2 a3 a4 a5 s5
def Psp5 {α1 α2 α3 α4 α5 ρ : Type} (r1 : Rp α1) (r2 : Rp α2) (r3 : Rp α3) (r4 : Rp α4) (r5 : Rp α5) (rr : Rp ρ) (m : α1 → α2 → α3 → α4 → α5 → Option (ρ)) : Sp := fun vs H Q _ => ∃ (F : Hp) (v1 v2 v3 v4 v5 : V) (a1 : α1) (a2 : α2) (a3 : α3) (a4 : α4) (a5 : α5) (d : ρ), vs = [v1, v2, v3, v4, v5] ∧ Ex F H ∧ r1.r F v1 a1 ∧ r2.r F v2 a2 ∧ r3.r F v3 a3 ∧ r4.r F v4 a4 ∧ r5.r F v5 a5 ∧ m a1 a2 a3 a4 a5 = some d ∧ ∀ v F2 H2, Cov ⟨H, F, []⟩ F2 [] H2 → rr.r F2 v d → Q v H2
theorem Psp5_len {α1 α2 α3 α4 α5 ρ : Type} {r1 : Rp α1} {r2 : Rp α2} {r3 : Rp α3} {r4 : Rp α4} {r5 : Rp α5} {rr : Rp ρ} {m : α1 → α2 → α3 → α4 → α5 → Option (ρ)} {vs : List V} {H : Hp} {Q : VK} {E : XK} (h : Psp5 r1 r2 r3 r4 r5 rr m vs H Q E) : vs.length = 5 := by
  obtain ⟨_, _, _, _, _, _, _, _, _, _, _, _, rfl, _⟩ := h
  rfl
def Fsp5 {α1 α2 α3 α4 α5 ρ : Type} (r1 : Rp α1) (r2 : Rp α2) (r3 : Rp α3) (r4 : Rp α4) (r5 : Rp α5) (rr : Rp ρ) (m : α1 → α2 → α3 → α4 → α5 → Option (List ρ)) : Sp := fun vs H Q _ => ∃ (F : Hp) (v1 v2 v3 v4 v5 : V) (a1 : α1) (a2 : α2) (a3 : α3) (a4 : α4) (a5 : α5) (d : List ρ), vs = [v1, v2, v3, v4, v5] ∧ Ex F H ∧ r1.r F v1 a1 ∧ r2.r F v2 a2 ∧ r3.r F v3 a3 ∧ r4.r F v4 a4 ∧ r5.r F v5 a5 ∧ m a1 a2 a3 a4 a5 = some d ∧ ∀ p F2 H2, Cov ⟨H, F, []⟩ F2 [(p, cLst rr d)] H2 → Q (.ref p) H2
theorem Fsp5_len {α1 α2 α3 α4 α5 ρ : Type} {r1 : Rp α1} {r2 : Rp α2} {r3 : Rp α3} {r4 : Rp α4} {r5 : Rp α5} {rr : Rp ρ} {m : α1 → α2 → α3 → α4 → α5 → Option (List ρ)} {vs : List V} {H : Hp} {Q : VK} {E : XK} (h : Fsp5 r1 r2 r3 r4 r5 rr m vs H Q E) : vs.length = 5 := by
  obtain ⟨_, _, _, _, _, _, _, _, _, _, _, _, rfl, _⟩ := h
  rfl
def MPsp5 {α1 α2 α3 α4 α5 ρ γ : Type} (cell : γ → Cp) (r1 : Rp α1) (r2 : Rp α2) (r3 : Rp α3) (r4 : Rp α4) (r5 : Rp α5) (rr : Rp ρ) (m : γ → α1 → α2 → α3 → α4 → α5 → Option (ρ × γ)) : Sp := fun vs H Q _ => ∃ (F : Hp) (p : Addr) (v1 v2 v3 v4 v5 : V) (s : γ) (a1 : α1) (a2 : α2) (a3 : α3) (a4 : α4) (a5 : α5) (d : ρ) (s2 : γ), vs = [.ref p, v1, v2, v3, v4, v5] ∧ Cov ⟨H, F, [p]⟩ F [(p, cell s)] H ∧ r1.r F v1 a1 ∧ r2.r F v2 a2 ∧ r3.r F v3 a3 ∧ r4.r F v4 a4 ∧ r5.r F v5 a5 ∧ m s a1 a2 a3 a4 a5 = some (d, s2) ∧ ∀ v F2 H2, Cov ⟨H, F, [p]⟩ F2 [(p, cell s2)] H2 → rr.r F2 v d → Q v H2
theorem MPsp5_len {α1 α2 α3 α4 α5 ρ γ : Type} {cell : γ → Cp} {r1 : Rp α1} {r2 : Rp α2} {r3 : Rp α3} {r4 : Rp α4} {r5 : Rp α5} {rr : Rp ρ} {m : γ → α1 → α2 → α3 → α4 → α5 → Option (ρ × γ)} {vs : List V} {H : Hp} {Q : VK} {E : XK} (h : MPsp5 cell r1 r2 r3 r4 r5 rr m vs H Q E) : vs.length = 6 := by
  obtain ⟨_, _, _, _, _, _, _, _, _, _, _, _, _, _, _, rfl, _⟩ := h
  rfl
def MFsp5 {α1 α2 α3 α4 α5 ρ γ : Type} (cell : γ → Cp) (r1 : Rp α1) (r2 : Rp α2) (r3 : Rp α3) (r4 : Rp α4) (r5 : Rp α5) (rr : Rp ρ) (m : γ → α1 → α2 → α3 → α4 → α5 → Option (List ρ × γ)) : Sp := fun vs H Q _ => ∃ (F : Hp) (p : Addr) (v1 v2 v3 v4 v5 : V) (s : γ) (a1 : α1) (a2 : α2) (a3 : α3) (a4 : α4) (a5 : α5) (d : List ρ) (s2 : γ), vs = [.ref p, v1, v2, v3, v4, v5] ∧ Cov ⟨H, F, [p]⟩ F [(p, cell s)] H ∧ r1.r F v1 a1 ∧ r2.r F v2 a2 ∧ r3.r F v3 a3 ∧ r4.r F v4 a4 ∧ r5.r F v5 a5 ∧ m s a1 a2 a3 a4 a5 = some (d, s2) ∧ ∀ q F2 H2, Cov ⟨H, F, [p]⟩ F2 [(p, cell s2), (q, cLst rr d)] H2 → Q (.ref q) H2
theorem MFsp5_len {α1 α2 α3 α4 α5 ρ γ : Type} {cell : γ → Cp} {r1 : Rp α1} {r2 : Rp α2} {r3 : Rp α3} {r4 : Rp α4} {r5 : Rp α5} {rr : Rp ρ} {m : γ → α1 → α2 → α3 → α4 → α5 → Option (List ρ × γ)} {vs : List V} {H : Hp} {Q : VK} {E : XK} (h : MFsp5 cell r1 r2 r3 r4 r5 rr m vs H Q E) : vs.length = 6 := by
  obtain ⟨_, _, _, _, _, _, _, _, _, _, _, _, _, _, _, rfl, _⟩ := h
  rfl
def o6 {α1 α2 α3 α4 α5 α6 ρ : Type} (f : α1 → α2 → α3 → α4 → α5 → α6 → Option ρ) (m1 : Option α1) (m2 : Option α2) (m3 : Option α3) (m4 : Option α4) (m5 : Option α5) (m6 : Option α6) : Option ρ := m1.bind fun a1 => m2.bind fun a2 => m3.bind fun a3 => m4.bind fun a4 => m5.bind fun a5 => m6.bind fun a6 => f a1 a2 a3 a4 a5 a6
theorem o6_some {α1 α2 α3 α4 α5 α6 ρ : Type} {f : α1 → α2 → α3 → α4 → α5 → α6 → Option ρ} {m1 : Option α1} {m2 : Option α2} {m3 : Option α3} {m4 : Option α4} {m5 : Option α5} {m6 : Option α6} {d : ρ} (h : o6 f m1 m2 m3 m4 m5 m6 = some d) : ∃ a1 a2 a3 a4 a5 a6, m1 = some a1 ∧ m2 = some a2 ∧ m3 = some a3 ∧ m4 = some a4 ∧ m5 = some a5 ∧ m6 = some a6 ∧ f a1 a2 a3 a4 a5 a6 = some d := by
  obtain ⟨a1, q1, h⟩ := bind_some h
  obtain ⟨a2, q2, h⟩ := bind_some h
  obtain ⟨a3, q3, h⟩ := bind_some h
  obtain ⟨a4, q4, h⟩ := bind_some h
  obtain ⟨a5, q5, h⟩ := bind_some h
  obtain ⟨a6, q6, h⟩ := bind_some h
  exact ⟨a1, a2, a3, a4, a5, a6, q1, q2, q3, q4, q5, q6, h⟩
def s6 {α1 α2 α3 α4 α5 α6 ρ γ : Type} (f : α1 → α2 → α3 → α4 → α5 → α6 → γ → Option (ρ × γ)) (m1 : Option (α1 × γ)) (m2 : γ → Option (α2 × γ)) (m3 : γ → Option (α3 × γ)) (m4 : γ → Option (α4 × γ)) (m5 : γ → Option (α5 × γ)) (m6 : γ → Option (α6 × γ)) : Option (ρ × γ) := sC (m1) fun a1 s1 => sC (m2 s1) fun a2 s2 => sC (m3 s2) fun a3 s3 => sC (m4 s3) fun a4 s4 => sC (m5 s4) fun a5 s5 => sC (m6 s5) fun a6 s6 => f a1 a2 a3 a4 a5 a6 s6
def Psp6 {α1 α2 α3 α4 α5 α6 ρ : Type} (r1 : Rp α1) (r2 : Rp α2) (r3 : Rp α3) (r4 : Rp α4) (r5 : Rp α5) (r6 : Rp α6) (rr : Rp ρ) (m : α1 → α2 → α3 → α4 → α5 → α6 → Option (ρ)) : Sp := fun vs H Q _ => ∃ (F : Hp) (v1 v2 v3 v4 v5 v6 : V) (a1 : α1) (a2 : α2) (a3 : α3) (a4 : α4) (a5 : α5) (a6 : α6) (d : ρ), vs = [v1, v2, v3, v4, v5, v6] ∧ Ex F H ∧ r1.r F v1 a1 ∧ r2.r F v2 a2 ∧ r3.r F v3 a3 ∧ r4.r F v4 a4 ∧ r5.r F v5 a5 ∧ r6.r F v6 a6 ∧ m a1 a2 a3 a4 a5 a6 = some d ∧ ∀ v F2 H2, Cov ⟨H, F, []⟩ F2 [] H2 → rr.r F2 v d → Q v H2
theorem Psp6_len {α1 α2 α3 α4 α5 α6 ρ : Type} {r1 : Rp α1} {r2 : Rp α2} {r3 : Rp α3} {r4 : Rp α4} {r5 : Rp α5} {r6 : Rp α6} {rr : Rp ρ} {m : α1 → α2 → α3 → α4 → α5 → α6 → Option (ρ)} {vs : List V} {H : Hp} {Q : VK} {E : XK} (h : Psp6 r1 r2 r3 r4 r5 r6 rr m vs H Q E) : vs.length = 6 := by
  obtain ⟨_, _, _, _, _, _, _, _, _, _, _, _, _, _, rfl, _⟩ := h
  rfl
def Fsp6 {α1 α2 α3 α4 α5 α6 ρ : Type} (r1 : Rp α1) (r2 : Rp α2) (r3 : Rp α3) (r4 : Rp α4) (r5 : Rp α5) (r6 : Rp α6) (rr : Rp ρ) (m : α1 → α2 → α3 → α4 → α5 → α6 → Option (List ρ)) : Sp := fun vs H Q _ => ∃ (F : Hp) (v1 v2 v3 v4 v5 v6 : V) (a1 : α1) (a2 : α2) (a3 : α3) (a4 : α4) (a5 : α5) (a6 : α6) (d : List ρ), vs = [v1, v2, v3, v4, v5, v6] ∧ Ex F H ∧ r1.r F v1 a1 ∧ r2.r F v2 a2 ∧ r3.r F v3 a3 ∧ r4.r F v4 a4 ∧ r5.r F v5 a5 ∧ r6.r F v6 a6 ∧ m a1 a2 a3 a4 a5 a6 = some d ∧ ∀ p F2 H2, Cov ⟨H, F, []⟩ F2 [(p, cLst rr d)] H2 → Q (.ref p) H2
theorem Fsp6_len {α1 α2 α3 α4 α5 α6 ρ : Type} {r1 : Rp α1} {r2 : Rp α2} {r3 : Rp α3} {r4 : Rp α4} {r5 : Rp α5} {r6 : Rp α6} {rr : Rp ρ} {m : α1 → α2 → α3 → α4 → α5 → α6 → Option (List ρ)} {vs : List V} {H : Hp} {Q : VK} {E : XK} (h : Fsp6 r1 r2 r3 r4 r5 r6 rr m vs H Q E) : vs.length = 6 := by
  obtain ⟨_, _, _, _, _, _, _, _, _, _, _, _, _, _, rfl, _⟩ := h
  rfl
def MPsp6 {α1 α2 α3 α4 α5 α6 ρ γ : Type} (cell : γ → Cp) (r1 : Rp α1) (r2 : Rp α2) (r3 : Rp α3) (r4 : Rp α4) (r5 : Rp α5) (r6 : Rp α6) (rr : Rp ρ) (m : γ → α1 → α2 → α3 → α4 → α5 → α6 → Option (ρ × γ)) : Sp := fun vs H Q _ => ∃ (F : Hp) (p : Addr) (v1 v2 v3 v4 v5 v6 : V) (s : γ) (a1 : α1) (a2 : α2) (a3 : α3) (a4 : α4) (a5 : α5) (a6 : α6) (d : ρ) (s2 : γ), vs = [.ref p, v1, v2, v3, v4, v5, v6] ∧ Cov ⟨H, F, [p]⟩ F [(p, cell s)] H ∧ r1.r F v1 a1 ∧ r2.r F v2 a2 ∧ r3.r F v3 a3 ∧ r4.r F v4 a4 ∧ r5.r F v5 a5 ∧ r6.r F v6 a6 ∧ m s a1 a2 a3 a4 a5 a6 = some (d, s2) ∧ ∀ v F2 H2, Cov ⟨H, F, [p]⟩ F2 [(p, cell s2)] H2 → rr.r F2 v d → Q v H2
theorem MPsp6_len {α1 α2 α3 α4 α5 α6 ρ γ : Type} {cell : γ → Cp} {r1 : Rp α1} {r2 : Rp α2} {r3 : Rp α3} {r4 : Rp α4} {r5 : Rp α5} {r6 : Rp α6} {rr : Rp ρ} {m : γ → α1 → α2 → α3 → α4 → α5 → α6 → Option (ρ × γ)} {vs : List V} {H : Hp} {Q : VK} {E : XK} (h : MPsp6 cell r1 r2 r3 r4 r5 r6 rr m vs H Q E) : vs.length = 7 := by
  obtain ⟨_, _, _, _, _, _, _, _, _, _, _, _, _, _, _, _, _, rfl, _⟩ := h
  rfl
def MFsp6 {α1 α2 α3 α4 α5 α6 ρ γ : Type} (cell : γ → Cp) (r1 : Rp α1) (r2 : Rp α2) (r3 : Rp α3) (r4 : Rp α4) (r5 : Rp α5) (r6 : Rp α6) (rr : Rp ρ) (m : γ → α1 → α2 → α3 → α4 → α5 → α6 → Option (List ρ × γ)) : Sp := fun vs H Q _ => ∃ (F : Hp) (p : Addr) (v1 v2 v3 v4 v5 v6 : V) (s : γ) (a1 : α1) (a2 : α2) (a3 : α3) (a4 : α4) (a5 : α5) (a6 : α6) (d : List ρ) (s2 : γ), vs = [.ref p, v1, v2, v3, v4, v5, v6] ∧ Cov ⟨H, F, [p]⟩ F [(p, cell s)] H ∧ r1.r F v1 a1 ∧ r2.r F v2 a2 ∧ r3.r F v3 a3 ∧ r4.r F v4 a4 ∧ r5.r F v5 a5 ∧ r6.r F v6 a6 ∧ m s a1 a2 a3 a4 a5 a6 = some (d, s2) ∧ ∀ q F2 H2, Cov ⟨H, F, [p]⟩ F2 [(p, cell s2), (q, cLst rr d)] H2 → Q (.ref q) H2
theorem MFsp6_len {α1 α2 α3 α4 α5 α6 ρ γ : Type} {cell : γ → Cp} {r1 : Rp α1} {r2 : Rp α2} {r3 : Rp α3} {r4 : Rp α4} {r5 : Rp α5} {r6 : Rp α6} {rr : Rp ρ} {m : γ → α1 → α2 → α3 → α4 → α5 → α6 → Option (List ρ × γ)} {vs : List V} {H : Hp} {Q : VK} {E : XK} (h : MFsp6 cell r1 r2 r3 r4 r5 r6 rr m vs H Q E) : vs.length = 7 := by
  obtain ⟨_, _, _, _, _, _, _, _, _, _, _, _, _, _, _, _, _, rfl, _⟩ := h
  rfl
def Psp0 {ρ : Type} (rr : Rp ρ) (m : Option ρ) : Sp := fun vs H Q _ => ∃ (F : Hp) (d : ρ), vs = [] ∧ Ex F H ∧ m = some d ∧ ∀ v F2 H2, Cov ⟨H, F, []⟩ F2 [] H2 → rr.r F2 v d → Q v H2
theorem Psp0_len {ρ : Type} {rr : Rp ρ} {m : Option ρ} {vs : List V} {H : Hp} {Q : VK} {E : XK} (h : Psp0 rr m vs H Q E) : vs.length = 0 := by
  obtain ⟨_, _, rfl, _⟩ := h
  rfl
def MPsp0 {ρ γ : Type} (cell : γ → Cp) (rr : Rp ρ) (m : γ → Option (ρ × γ)) : Sp := fun vs H Q _ => ∃ (F : Hp) (p : Addr) (s : γ) (d : ρ) (s2 : γ), vs = [.ref p] ∧ Cov ⟨H, F, [p]⟩ F [(p, cell s)] H ∧ m s = some (d, s2) ∧ ∀ v F2 H2, Cov ⟨H, F, [p]⟩ F2 [(p, cell s2)] H2 → rr.r F2 v d → Q v H2
theorem MPsp0_len {ρ γ : Type} {cell : γ → Cp} {rr : Rp ρ} {m : γ → Option (ρ × γ)} {vs : List V} {H : Hp} {Q : VK} {E : XK} (h : MPsp0 cell rr m vs H Q E) : vs.length = 1 := by
  obtain ⟨_, _, _, _, _, rfl, _⟩ := h
  rfl
def MFsp0 {ρ γ : Type} (cell : γ → Cp) (rr : Rp ρ) (m : γ → Option (List ρ × γ)) : Sp := fun vs H Q _ => ∃ (F : Hp) (p : Addr) (s : γ) (d : List ρ) (s2 : γ), vs = [.ref p] ∧ Cov ⟨H, F, [p]⟩ F [(p, cell s)] H ∧ m s = some (d, s2) ∧ ∀ q F2 H2, Cov ⟨H, F, [p]⟩ F2 [(p, cell s2), (q, cLst rr d)] H2 → Q (.ref q) H2
theorem MFsp0_len {ρ γ : Type} {cell : γ → Cp} {rr : Rp ρ} {m : γ → Option (List ρ × γ)} {vs : List V} {H : Hp} {Q : VK} {E : XK} (h : MFsp0 cell rr m vs H Q E) : vs.length = 1 := by
  obtain ⟨_, _, _, _, _, rfl, _⟩ := h
  rfl
section
variable {σ : L2.St} {F : Hp} {cs : Cs}
theorem em_Pcall1 {α1 ρ : Type} {r1 : Rp α1} {rr : Rp ρ} {E : XK} {t1 : TE} {m : α1 → Option (ρ)} {m1 : Option α1} (h1 : EM r1 t1 σ F cs m1) : EM rr (tCall (Psp1 r1 rr m) [] E (tCons t1 tNil)) σ F cs (o1 m m1) := fun d q c F0 H0 e0 k0 Q hQ => by
  obtain ⟨a1, q1, q⟩ := o1_some q
  refine h1 a1 q1 c F0 H0 e0 k0 _ fun v1 F1 H1 e1 k1 x1 => ?_
  have f1 := e0.trans e1
  exact ⟨F1, v1, a1, d, rfl, k1.ex, x1, q, fun v F9 H9 k9 r9 => hQ v F9 H9 ((e1).trans k9.fz) (k1.call0 k9) r9⟩
theorem em_Fcall1 {α1 ρ : Type} {r1 : Rp α1} {rr : Rp ρ} {E : XK} {t1 : TE} {m : α1 → Option (List ρ)} {m1 : Option α1} (h1 : EM r1 t1 σ F cs m1) : EF rr (tCall (Fsp1 r1 rr m) [] E (tCons t1 tNil)) σ F cs (o1 m m1) := fun d q c F0 H0 e0 k0 Q hQ => by
  obtain ⟨a1, q1, q⟩ := o1_some q
  refine h1 a1 q1 c F0 H0 e0 k0 _ fun v1 F1 H1 e1 k1 x1 => ?_
  have f1 := e0.trans e1
  exact ⟨F1, v1, a1, d, rfl, k1.ex, x1, q, fun p F9 H9 k9 => hQ p F9 H9 ((e1).trans k9.fz) (k1.call0n k9) (k1.dom p (Or.resolve_left (k9.old_new (p, cLst rr d) List.mem_cons_self) List.not_mem_nil))⟩
theorem em_Pcall2 {α1 α2 ρ : Type} {r1 : Rp α1} {r2 : Rp α2} {rr : Rp ρ} {E : XK} {t1 t2 : TE} {m : α1 → α2 → Option (ρ)} {m1 : Option α1} {m2 : Option α2} (h1 : EM r1 t1 σ F cs m1) (h2 : EM r2 t2 σ F cs m2) : EM rr (tCall (Psp2 r1 r2 rr m) [] E (tCons t1 (tCons t2 tNil))) σ F cs (o2 m m1 m2) := fun d q c F0 H0 e0 k0 Q hQ => by
  obtain ⟨a1, a2, q1, q2, q⟩ := o2_some q
  refine h1 a1 q1 c F0 H0 e0 k0 _ fun v1 F1 H1 e1 k1 x1 => ?_
  have f1 := e0.trans e1
  refine h2 a2 q2 c F1 H1 f1 k1 _ fun v2 F2 H2 e2 k2 x2 => ?_
  have f2 := f1.trans e2
  exact ⟨F2, v1, v2, a1, a2, d, rfl, k2.ex, r1.up (e2) x1, x2, q, fun v F9 H9 k9 r9 => hQ v F9 H9 (((e1).trans e2).trans k9.fz) (k2.call0 k9) r9⟩
theorem em_Fcall2 {α1 α2 ρ : Type} {r1 : Rp α1} {r2 : Rp α2} {rr : Rp ρ} {E : XK} {t1 t2 : TE} {m : α1 → α2 → Option (List ρ)} {m1 : Option α1} {m2 : Option α2} (h1 : EM r1 t1 σ F cs m1) (h2 : EM r2 t2 σ F cs m2) : EF rr (tCall (Fsp2 r1 r2 rr m) [] E (tCons t1 (tCons t2 tNil))) σ F cs (o2 m m1 m2) := fun d q c F0 H0 e0 k0 Q hQ => by
  obtain ⟨a1, a2, q1, q2, q⟩ := o2_some q
  refine h1 a1 q1 c F0 H0 e0 k0 _ fun v1 F1 H1 e1 k1 x1 => ?_
  have f1 := e0.trans e1
  refine h2 a2 q2 c F1 H1 f1 k1 _ fun v2 F2 H2 e2 k2 x2 => ?_
  have f2 := f1.trans e2
  exact ⟨F2, v1, v2, a1, a2, d, rfl, k2.ex, r1.up (e2) x1, x2, q, fun p F9 H9 k9 => hQ p F9 H9 (((e1).trans e2).trans k9.fz) (k2.call0n k9) (k2.dom p (Or.resolve_left (k9.old_new (p, cLst rr d) List.mem_cons_self) List.not_mem_nil))⟩
theorem em_Pcall3 {α1 α2 α3 ρ : Type} {r1 : Rp α1} {r2 : Rp α2} {r3 : Rp α3} {rr : Rp ρ} {E : XK} {t1 t2 t3 : TE} {m : α1 → α2 → α3 → Option (ρ)} {m1 : Option α1} {m2 : Option α2} {m3 : Option α3} (h1 : EM r1 t1 σ F cs m1) (h2 : EM r2 t2 σ F cs m2) (h3 : EM r3 t3 σ F cs m3) : EM rr (tCall (Psp3 r1 r2 r3 rr m) [] E (tCons t1 (tCons t2 (tCons t3 tNil)))) σ F cs (o3 m m1 m2 m3) := fun d q c F0 H0 e0 k0 Q hQ => by
  obtain ⟨a1, a2, a3, q1, q2, q3, q⟩ := o3_some q
  refine h1 a1 q1 c F0 H0 e0 k0 _ fun v1 F1 H1 e1 k1 x1 => ?_
  have f1 := e0.trans e1
  refine h2 a2 q2 c F1 H1 f1 k1 _ fun v2 F2 H2 e2 k2 x2 => ?_
  have f2 := f1.trans e2
  refine h3 a3 q3 c F2 H2 f2 k2 _ fun v3 F3 H3 e3 k3 x3 => ?_
  have f3 := f2.trans e3
  exact ⟨F3, v1, v2, v3, a1, a2, a3, d, rfl, k3.ex, r1.up ((e2).trans e3) x1, r2.up (e3) x2, x3, q, fun v F9 H9 k9 r9 => hQ v F9 H9 ((((e1).trans e2).trans e3).trans k9.fz) (k3.call0 k9) r9⟩
theorem em_Fcall3 {α1 α2 α3 ρ : Type} {r1 : Rp α1} {r2 : Rp α2} {r3 : Rp α3} {rr : Rp ρ} {E : XK} {t1 t2 t3 : TE} {m : α1 → α2 → α3 → Option (List ρ)} {m1 : Option α1} {m2 : Option α2} {m3 : Option α3} (h1 : EM r1 t1 σ F cs m1) (h2 : EM r2 t2 σ F cs m2) (h3 : EM r3 t3 σ F cs m3) : EF rr (tCall (Fsp3 r1 r2 r3 rr m) [] E (tCons t1 (tCons t2 (tCons t3 tNil)))) σ F cs (o3 m m1 m2 m3) := fun d q c F0 H0 e0 k0 Q hQ => by
  obtain ⟨a1, a2, a3, q1, q2, q3, q⟩ := o3_some q
  refine h1 a1 q1 c F0 H0 e0 k0 _ fun v1 F1 H1 e1 k1 x1 => ?_
  have f1 := e0.trans e1
  refine h2 a2 q2 c F1 H1 f1 k1 _ fun v2 F2 H2 e2 k2 x2 => ?_
  have f2 := f1.trans e2
  refine h3 a3 q3 c F2 H2 f2 k2 _ fun v3 F3 H3 e3 k3 x3 => ?_
  have f3 := f2.trans e3
  exact ⟨F3, v1, v2, v3, a1, a2, a3, d, rfl, k3.ex, r1.up ((e2).trans e3) x1, r2.up (e3) x2, x3, q, fun p F9 H9 k9 => hQ p F9 H9 ((((e1).trans e2).trans e3).trans k9.fz) (k3.call0n k9) (k3.dom p (Or.resolve_left (k9.old_new (p, cLst rr d) List.mem_cons_self) List.not_mem_nil))⟩
theorem em_Pcall4 {α1 α2 α3 α4 ρ : Type} {r1 : Rp α1} {r2 : Rp α2} {r3 : Rp α3} {r4 : Rp α4} {rr : Rp ρ} {E : XK} {t1 t2 t3 t4 : TE} {m : α1 → α2 → α3 → α4 → Option (ρ)} {m1 : Option α1} {m2 : Option α2} {m3 : Option α3} {m4 : Option α4} (h1 : EM r1 t1 σ F cs m1) (h2 : EM r2 t2 σ F cs m2) (h3 : EM r3 t3 σ F cs m3) (h4 : EM r4 t4 σ F cs m4) : EM rr (tCall (Psp4 r1 r2 r3 r4 rr m) [] E (tCons t1 (tCons t2 (tCons t3 (tCons t4 tNil))))) σ F cs (o4 m m1 m2 m3 m4) := fun d q c F0 H0 e0 k0 Q hQ => by
  obtain ⟨a1, a2, a3, a4, q1, q2, q3, q4, q⟩ := o4_some q
  refine h1 a1 q1 c F0 H0 e0 k0 _ fun v1 F1 H1 e1 k1 x1 => ?_
  have f1 := e0.trans e1
  refine h2 a2 q2 c F1 H1 f1 k1 _ fun v2 F2 H2 e2 k2 x2 => ?_
  have f2 := f1.trans e2
  refine h3 a3 q3 c F2 H2 f2 k2 _ fun v3 F3 H3 e3 k3 x3 => ?_
  have f3 := f2.trans e3
  refine h4 a4 q4 c F3 H3 f3 k3 _ fun v4 F4 H4 e4 k4 x4 => ?_
  have f4 := f3.trans e4
  exact ⟨F4, v1, v2, v3, v4, a1, a2, a3, a4, d, rfl, k4.ex, r1.up (((e2).trans e3).trans e4) x1, r2.up ((e3).trans e4) x2, r3.up (e4) x3, x4, q, fun v F9 H9 k9 r9 => hQ v F9 H9 (((((e1).trans e2).trans e3).trans e4).trans k9.fz) (k4.call0 k9) r9⟩
theorem em_Fcall4 {α1 α2 α3 α4 ρ : Type} {r1 : Rp α1} {r2 : Rp α2} {r3 : Rp α3} {r4 : Rp α4} {rr : Rp ρ} {E : XK} {t1 t2 t3 t4 : TE} {m : α1 → α2 → α3 → α4 → Option (List ρ)} {m1 : Option α1} {m2 : Option α2} {m3 : Option α3} {m4 : Option α4} (h1 : EM r1 t1 σ F cs m1) (h2 : EM r2 t2 σ F cs m2) (h3 : EM r3 t3 σ F cs m3) (h4 : EM r4 t4 σ F cs m4) : EF rr (tCall (Fsp4 r1 r2 r3 r4 rr m) [] E (tCons t1 (tCons t2 (tCons t3 (tCons t4 tNil))))) σ F cs (o4 m m1 m2 m3 m4) := fun d q c F0 H0 e0 k0 Q hQ => by
  obtain ⟨a1, a2, a3, a4, q1, q2, q3, q4, q⟩ := o4_some q
  refine h1 a1 q1 c F0 H0 e0 k0 _ fun v1 F1 H1 e1 k1 x1 => ?_
  have f1 := e0.trans e1
  refine h2 a2 q2 c F1 H1 f1 k1 _ fun v2 F2 H2 e2 k2 x2 => ?_
  have f2 := f1.trans e2
  refine h3 a3 q3 c F2 H2 f2 k2 _ fun v3 F3 H3 e3 k3 x3 => ?_
  have f3 := f2.trans e3
  refine h4 a4 q4 c F3 H3 f3 k3 _ fun v4 F4 H4 e4 k4 x4 => ?_
  have f4 := f3.trans e4
  exact ⟨F4, v1, v2, v3, v4, a1, a2, a3, a4, d, rfl, k4.ex, r1.up (((e2).trans e3).trans e4) x1, r2.up ((e3).trans e4) x2, r3.up (e4) x3, x4, q, fun p F9 H9 k9 => hQ p F9 H9 (((((e1).trans e2).trans e3).trans e4).trans k9.fz) (k4.call0n k9) (k4.dom p (Or.resolve_left (k9.old_new (p, cLst rr d) List.mem_cons_self) List.not_mem_nil))⟩
theorem em_Pcall5 {α1 α2 α3 α4 α5 ρ : Type} {r1 : Rp α1} {r2 : Rp α2} {r3 : Rp α3} {r4 : Rp α4} {r5 : Rp α5} {rr : Rp ρ} {E : XK} {t1 t2 t3 t4 t5 : TE} {m : α1 → α2 → α3 → α4 → α5 → Option (ρ)} {m1 : Option α1} {m2 : Option α2} {m3 : Option α3} {m4 : Option α4} {m5 : Option α5} (h1 : EM r1 t1 σ F cs m1) (h2 : EM r2 t2 σ F cs m2) (h3 : EM r3 t3 σ F cs m3) (h4 : EM r4 t4 σ F cs m4) (h5 : EM r5 t5 σ F cs m5) : EM rr (tCall (Psp5 r1 r2 r3 r4 r5 rr m) [] E (tCons t1 (tCons t2 (tCons t3 (tCons t4 (tCons t5 tNil)))))) σ F cs (o5 m m1 m2 m3 m4 m5) := fun d q c F0 H0 e0 k0 Q hQ => by
  obtain ⟨a1, a2, a3, a4, a5, q1, q2, q3, q4, q5, q⟩ := o5_some q
  refine h1 a1 q1 c F0 H0 e0 k0 _ fun v1 F1 H1 e1 k1 x1 => ?_
  have f1 := e0.trans e1
  refine h2 a2 q2 c F1 H1 f1 k1 _ fun v2 F2 H2 e2 k2 x2 => ?_
  have f2 := f1.trans e2
  refine h3 a3 q3 c F2 H2 f2 k2 _ fun v3 F3 H3 e3 k3 x3 => ?_
  have f3 := f2.trans e3
  refine h4 a4 q4 c F3 H3 f3 k3 _ fun v4 F4 H4 e4 k4 x4 => ?_
  have f4 := f3.trans e4
  refine h5 a5 q5 c F4 H4 f4 k4 _ fun v5 F5 H5 e5 k5 x5 => ?_
  have f5 := f4.trans e5
  exact ⟨F5, v1, v2, v3, v4, v5, a1, a2, a3, a4, a5, d, rfl, k5.ex, r1.up ((((e2).trans e3).trans e4).trans e5) x1, r2.up (((e3).trans e4).trans e5) x2, r3.up ((e4).trans e5) x3, r4.up (e5) x4, x5, q, fun v F9 H9 k9 r9 => hQ v F9 H9 ((((((e1).trans e2).trans e3).trans e4).trans e5).trans k9.fz) (k5.call0 k9) r9⟩
theorem em_Fcall5 {α1 α2 α3 α4 α5 ρ : Type} {r1 : Rp α1} {r2 : Rp α2} {r3 : Rp α3} {r4 : Rp α4} {r5 : Rp α5} {rr : Rp ρ} {E : XK} {t1 t2 t3 t4 t5 : TE} {m : α1 → α2 → α3 → α4 → α5 → Option (List ρ)} {m1 : Option α1} {m2 : Option α2} {m3 : Option α3} {m4 : Option α4} {m5 : Option α5} (h1 : EM r1 t1 σ F cs m1) (h2 : EM r2 t2 σ F cs m2) (h3 : EM r3 t3 σ F cs m3) (h4 : EM r4 t4 σ F cs m4) (h5 : EM r5 t5 σ F cs m5) : EF rr (tCall (Fsp5 r1 r2 r3 r4 r5 rr m) [] E (tCons t1 (tCons t2 (tCons t3 (tCons t4 (tCons t5 tNil)))))) σ F cs (o5 m m1 m2 m3 m4 m5) := fun d q c F0 H0 e0 k0 Q hQ => by
  obtain ⟨a1, a2, a3, a4, a5, q1, q2, q3, q4, q5, q⟩ := o5_some q
  refine h1 a1 q1 c F0 H0 e0 k0 _ fun v1 F1 H1 e1 k1 x1 => ?_
  have f1 := e0.trans e1
  refine h2 a2 q2 c F1 H1 f1 k1 _ fun v2 F2 H2 e2 k2 x2 => ?_
  have f2 := f1.trans e2
  refine h3 a3 q3 c F2 H2 f2 k2 _ fun v3 F3 H3 e3 k3 x3 => ?_
  have f3 := f2.trans e3
  refine h4 a4 q4 c F3 H3 f3 k3 _ fun v4 F4 H4 e4 k4 x4 => ?_
  have f4 := f3.trans e4
  refine h5 a5 q5 c F4 H4 f4 k4 _ fun v5 F5 H5 e5 k5 x5 => ?_
  have f5 := f4.trans e5
  exact ⟨F5, v1, v2, v3, v4, v5, a1, a2, a3, a4, a5, d, rfl, k5.ex, r1.up ((((e2).trans e3).trans e4).trans e5) x1, r2.up (((e3).trans e4).trans e5) x2, r3.up ((e4).trans e5) x3, r4.up (e5) x4, x5, q, fun p F9 H9 k9 => hQ p F9 H9 ((((((e1).trans e2).trans e3).trans e4).trans e5).trans k9.fz) (k5.call0n k9) (k5.dom p (Or.resolve_left (k9.old_new (p, cLst rr d) List.mem_cons_self) List.not_mem_nil))⟩
theorem em_Pcall6 {α1 α2 α3 α4 α5 α6 ρ : Type} {r1 : Rp α1} {r2 : Rp α2} {r3 : Rp α3} {r4 : Rp α4} {r5 : Rp α5} {r6 : Rp α6} {rr : Rp ρ} {E : XK} {t1 t2 t3 t4 t5 t6 : TE} {m : α1 → α2 → α3 → α4 → α5 → α6 → Option (ρ)} {m1 : Option α1} {m2 : Option α2} {m3 : Option α3} {m4 : Option α4} {m5 : Option α5} {m6 : Option α6} (h1 : EM r1 t1 σ F cs m1) (h2 : EM r2 t2 σ F cs m2) (h3 : EM r3 t3 σ F cs m3) (h4 : EM r4 t4 σ F cs m4) (h5 : EM r5 t5 σ F cs m5) (h6 : EM r6 t6 σ F cs m6) : EM rr (tCall (Psp6 r1 r2 r3 r4 r5 r6 rr m) [] E (tCons t1 (tCons t2 (tCons t3 (tCons t4 (tCons t5 (tCons t6 tNil))))))) σ F cs (o6 m m1 m2 m3 m4 m5 m6) := fun d q c F0 H0 e0 k0 Q hQ => by
  obtain ⟨a1, a2, a3, a4, a5, a6, q1, q2, q3, q4, q5, q6, q⟩ := o6_some q
  refine h1 a1 q1 c F0 H0 e0 k0 _ fun v1 F1 H1 e1 k1 x1 => ?_
  have f1 := e0.trans e1
  refine h2 a2 q2 c F1 H1 f1 k1 _ fun v2 F2 H2 e2 k2 x2 => ?_
  have f2 := f1.trans e2
  refine h3 a3 q3 c F2 H2 f2 k2 _ fun v3 F3 H3 e3 k3 x3 => ?_
  have f3 := f2.trans e3
  refine h4 a4 q4 c F3 H3 f3 k3 _ fun v4 F4 H4 e4 k4 x4 => ?_
  have f4 := f3.trans e4
  refine h5 a5 q5 c F4 H4 f4 k4 _ fun v5 F5 H5 e5 k5 x5 => ?_
  have f5 := f4.trans e5
  refine h6 a6 q6 c F5 H5 f5 k5 _ fun v6 F6 H6 e6 k6 x6 => ?_
  have f6 := f5.trans e6
  exact ⟨F6, v1, v2, v3, v4, v5, v6, a1, a2, a3, a4, a5, a6, d, rfl, k6.ex, r1.up (((((e2).trans e3).trans e4).trans e5).trans e6) x1, r2.up ((((e3).trans e4).trans e5).trans e6) x2, r3.up (((e4).trans e5).trans e6) x3, r4.up ((e5).trans e6) x4, r5.up (e6) x5, x6, q, fun v F9 H9 k9 r9 => hQ v F9 H9 (((((((e1).trans e2).trans e3).trans e4).trans e5).trans e6).trans k9.fz) (k6.call0 k9) r9⟩
theorem em_Fcall6 {α1 α2 α3 α4 α5 α6 ρ : Type} {r1 : Rp α1} {r2 : Rp α2} {r3 : Rp α3} {r4 : Rp α4} {r5 : Rp α5} {r6 : Rp α6} {rr : Rp ρ} {E : XK} {t1 t2 t3 t4 t5 t6 : TE} {m : α1 → α2 → α3 → α4 → α5 → α6 → Option (List ρ)} {m1 : Option α1} {m2 : Option α2} {m3 : Option α3} {m4 : Option α4} {m5 : Option α5} {m6 : Option α6} (h1 : EM r1 t1 σ F cs m1) (h2 : EM r2 t2 σ F cs m2) (h3 : EM r3 t3 σ F cs m3) (h4 : EM r4 t4 σ F cs m4) (h5 : EM r5 t5 σ F cs m5) (h6 : EM r6 t6 σ F cs m6) : EF rr (tCall (Fsp6 r1 r2 r3 r4 r5 r6 rr m) [] E (tCons t1 (tCons t2 (tCons t3 (tCons t4 (tCons t5 (tCons t6 tNil))))))) σ F cs (o6 m m1 m2 m3 m4 m5 m6) := fun d q c F0 H0 e0 k0 Q hQ => by
  obtain ⟨a1, a2, a3, a4, a5, a6, q1, q2, q3, q4, q5, q6, q⟩ := o6_some q
  refine h1 a1 q1 c F0 H0 e0 k0 _ fun v1 F1 H1 e1 k1 x1 => ?_
  have f1 := e0.trans e1
  refine h2 a2 q2 c F1 H1 f1 k1 _ fun v2 F2 H2 e2 k2 x2 => ?_
  have f2 := f1.trans e2
  refine h3 a3 q3 c F2 H2 f2 k2 _ fun v3 F3 H3 e3 k3 x3 => ?_
  have f3 := f2.trans e3
  refine h4 a4 q4 c F3 H3 f3 k3 _ fun v4 F4 H4 e4 k4 x4 => ?_
  have f4 := f3.trans e4
  refine h5 a5 q5 c F4 H4 f4 k4 _ fun v5 F5 H5 e5 k5 x5 => ?_
  have f5 := f4.trans e5
  refine h6 a6 q6 c F5 H5 f5 k5 _ fun v6 F6 H6 e6 k6 x6 => ?_
  have f6 := f5.trans e6
  exact ⟨F6, v1, v2, v3, v4, v5, v6, a1, a2, a3, a4, a5, a6, d, rfl, k6.ex, r1.up (((((e2).trans e3).trans e4).trans e5).trans e6) x1, r2.up ((((e3).trans e4).trans e5).trans e6) x2, r3.up (((e4).trans e5).trans e6) x3, r4.up ((e5).trans e6) x4, r5.up (e6) x5, x6, q, fun p F9 H9 k9 => hQ p F9 H9 (((((((e1).trans e2).trans e3).trans e4).trans e5).trans e6).trans k9.fz) (k6.call0n k9) (k6.dom p (Or.resolve_left (k9.old_new (p, cLst rr d) List.mem_cons_self) List.not_mem_nil))⟩
theorem em_Pcall0 {ρ : Type} {rr : Rp ρ} {E : XK} {m : Option ρ} : EM rr (tCall (Psp0 rr m) [] E tNil) σ F cs m := fun d q c F0 H0 e0 k0 Q hQ =>
  ⟨F0, d, rfl, k0.ex, q, fun v F9 H9 k9 r9 => hQ v F9 H9 k9.fz (k0.call0 k9) r9⟩
end
section
variable {σ : L2.St} {F : Hp} {γ : Type} {cs : γ → Cs} {s : γ}
theorem sm_Mcall0 { ρ : Type} {rr : Rp ρ} {E : XK} {cell : γ → Cp} {p : Addr} {i0 j0 : Nat} {m : γ → Option (ρ × γ)}  (hv : σ[i0]? = some (some (.ref p))) (hi : ∀ s, (cs s)[j0]? = some (p, cell s)) (hz : ∀ s s2, (cs s).set j0 (p, cell s2) = cs s2)  : SM rr (tCall (MPsp0 cell  rr m) [] E (tCons (tVar i0) tNil)) σ F (cs s) (m s) cs := fun d g q c F0 H0 f0 k0 Q hQ => by
  refine ⟨_, hv, ?_⟩
  exact ⟨F0, p, s, d, g, rfl, k0.preAt j0 (hi s), q, fun v F9 H9 k9 r9 => hQ v F9 H9 (k9.fz) (by have z := k0.callAt j0 (hi s) k9; rw [hz] at z; exact z) r9⟩
theorem sf_Mcall0 { ρ : Type} {rr : Rp ρ} {E : XK} {cell : γ → Cp} {p : Addr} {i0 j0 : Nat} {m : γ → Option (List ρ × γ)}  (hv : σ[i0]? = some (some (.ref p))) (hi : ∀ s, (cs s)[j0]? = some (p, cell s)) (hz : ∀ s s2, (cs s).set j0 (p, cell s2) = cs s2)  : SF rr (tCall (MFsp0 cell  rr m) [] E (tCons (tVar i0) tNil)) σ F (cs s) (m s) cs := fun d g q c F0 H0 f0 k0 Q hQ => by
  refine ⟨_, hv, ?_⟩
  exact ⟨F0, p, s, d, g, rfl, k0.preAt j0 (hi s), q, fun l F9 H9 k9 => hQ l F9 H9 (k9.fz) (by have z := k0.callAtN j0 (hi s) k9; rw [hz] at z; exact z) (k0.dom l (k9.newOf))⟩
theorem sm_Pcall1 {α1 ρ : Type} {r1 : Rp α1} {rr : Rp ρ} {E : XK} {t1 : TE} {m : α1 → Option ρ} {m1 : Option (α1 × γ)} (h1 : SM r1 t1 σ F (cs s) (m1) cs) : SM rr (tCall (Psp1 r1 rr m) [] E (tCons t1 tNil)) σ F (cs s) (s1 (fun a1 s => sK s (m a1)) m1) cs := fun d g q c F0 H0 f0 k0 Q hQ => by
  unfold s1 at q
  obtain ⟨a1, s1, q1, q⟩ := sC_some q
  refine (h1) a1 s1 q1 c F0 H0 f0 k0 _ fun v1 F1 H1 e1 k1 x1 => ?_
  have f1 := f0.trans e1
  have g1 := e1
  obtain ⟨qq, eg⟩ := sP_some q
  subst eg
  exact ⟨F1, v1, a1, d, rfl, k1.ex, x1, qq, fun v F9 H9 k9 r9 => hQ v F9 H9 (g1.trans k9.fz) (k1.call0 k9) r9⟩
theorem sf_Fcall1 {α1 ρ : Type} {r1 : Rp α1} {rr : Rp ρ} {E : XK} {t1 : TE} {m : α1 → Option (List ρ)} {m1 : Option (α1 × γ)} (h1 : SM r1 t1 σ F (cs s) (m1) cs) : SF rr (tCall (Fsp1 r1 rr m) [] E (tCons t1 tNil)) σ F (cs s) (s1 (fun a1 s => sK s (m a1)) m1) cs := fun d g q c F0 H0 f0 k0 Q hQ => by
  unfold s1 at q
  obtain ⟨a1, s1, q1, q⟩ := sC_some q
  refine (h1) a1 s1 q1 c F0 H0 f0 k0 _ fun v1 F1 H1 e1 k1 x1 => ?_
  have f1 := f0.trans e1
  have g1 := e1
  obtain ⟨qq, eg⟩ := sP_some q
  subst eg
  exact ⟨F1, v1, a1, d, rfl, k1.ex, x1, qq, fun p F9 H9 k9 => hQ p F9 H9 (g1.trans k9.fz) (k1.call0n k9) (k1.dom p (Or.resolve_left (k9.old_new (p, cLst rr d) List.mem_cons_self) List.not_mem_nil))⟩
theorem sm_Mcall1 {α1 ρ : Type} {r1 : Rp α1} {rr : Rp ρ} {E : XK} {t1 : TE} {cell : γ → Cp} {p : Addr} {i0 j0 : Nat} {m : γ → α1 → Option (ρ × γ)} {m1 : Option (α1 × γ)} (hv : σ[i0]? = some (some (.ref p))) (hi : ∀ s, (cs s)[j0]? = some (p, cell s)) (hz : ∀ s s2, (cs s).set j0 (p, cell s2) = cs s2) (h1 : SM r1 t1 σ F (cs s) (m1) cs) : SM rr (tCall (MPsp1 cell r1 rr m) [] E (tCons (tVar i0) (tCons t1 tNil))) σ F (cs s) (s1 (fun a1 s => m s a1) m1) cs := fun d g q c F0 H0 f0 k0 Q hQ => by
  refine ⟨_, hv, ?_⟩
  unfold s1 at q
  obtain ⟨a1, s1, q1, q⟩ := sC_some q
  refine (h1) a1 s1 q1 c F0 H0 f0 k0 _ fun v1 F1 H1 e1 k1 x1 => ?_
  have f1 := f0.trans e1
  have g1 := e1
  exact ⟨F1, p, v1, s1, a1, d, g, rfl, k1.preAt j0 (hi s1), x1, q, fun v F9 H9 k9 r9 => hQ v F9 H9 (g1.trans k9.fz) (by have z := k1.callAt j0 (hi s1) k9; rw [hz] at z; exact z) r9⟩
theorem sf_Mcall1 {α1 ρ : Type} {r1 : Rp α1} {rr : Rp ρ} {E : XK} {t1 : TE} {cell : γ → Cp} {p : Addr} {i0 j0 : Nat} {m : γ → α1 → Option (List ρ × γ)} {m1 : Option (α1 × γ)} (hv : σ[i0]? = some (some (.ref p))) (hi : ∀ s, (cs s)[j0]? = some (p, cell s)) (hz : ∀ s s2, (cs s).set j0 (p, cell s2) = cs s2) (h1 : SM r1 t1 σ F (cs s) (m1) cs) : SF rr (tCall (MFsp1 cell r1 rr m) [] E (tCons (tVar i0) (tCons t1 tNil))) σ F (cs s) (s1 (fun a1 s => m s a1) m1) cs := fun d g q c F0 H0 f0 k0 Q hQ => by
  refine ⟨_, hv, ?_⟩
  unfold s1 at q
  obtain ⟨a1, s1, q1, q⟩ := sC_some q
  refine (h1) a1 s1 q1 c F0 H0 f0 k0 _ fun v1 F1 H1 e1 k1 x1 => ?_
  have f1 := f0.trans e1
  have g1 := e1
  exact ⟨F1, p, v1, s1, a1, d, g, rfl, k1.preAt j0 (hi s1), x1, q, fun l F9 H9 k9 => hQ l F9 H9 (g1.trans k9.fz) (by have z := k1.callAtN j0 (hi s1) k9; rw [hz] at z; exact z) (k1.dom l (k9.newOf))⟩
theorem sm_Pcall2 {α1 α2 ρ : Type} {r1 : Rp α1} {r2 : Rp α2} {rr : Rp ρ} {E : XK} {t1 t2 : TE} {m : α1 → α2 → Option ρ} {m1 : Option (α1 × γ)} {m2 : γ → Option (α2 × γ)} (h1 : SM r1 t1 σ F (cs s) (m1) cs) (h2 : ∀ s, SM r2 t2 σ F (cs s) (m2 s) cs) : SM rr (tCall (Psp2 r1 r2 rr m) [] E (tCons t1 (tCons t2 tNil))) σ F (cs s) (s2 (fun a1 a2 s => sK s (m a1 a2)) m1 m2) cs := fun d g q c F0 H0 f0 k0 Q hQ => by
  unfold s2 at q
  obtain ⟨a1, s1, q1, q⟩ := sC_some q
  obtain ⟨a2, s2, q2, q⟩ := sC_some q
  refine (h1) a1 s1 q1 c F0 H0 f0 k0 _ fun v1 F1 H1 e1 k1 x1 => ?_
  have f1 := f0.trans e1
  have g1 := e1
  refine (h2 s1) a2 s2 q2 c F1 H1 f1 k1 _ fun v2 F2 H2 e2 k2 x2 => ?_
  have f2 := f1.trans e2
  have g2 := g1.trans e2
  obtain ⟨qq, eg⟩ := sP_some q
  subst eg
  exact ⟨F2, v1, v2, a1, a2, d, rfl, k2.ex, r1.up (e2) x1, x2, qq, fun v F9 H9 k9 r9 => hQ v F9 H9 (g2.trans k9.fz) (k2.call0 k9) r9⟩
theorem sf_Fcall2 {α1 α2 ρ : Type} {r1 : Rp α1} {r2 : Rp α2} {rr : Rp ρ} {E : XK} {t1 t2 : TE} {m : α1 → α2 → Option (List ρ)} {m1 : Option (α1 × γ)} {m2 : γ → Option (α2 × γ)} (h1 : SM r1 t1 σ F (cs s) (m1) cs) (h2 : ∀ s, SM r2 t2 σ F (cs s) (m2 s) cs) : SF rr (tCall (Fsp2 r1 r2 rr m) [] E (tCons t1 (tCons t2 tNil))) σ F (cs s) (s2 (fun a1 a2 s => sK s (m a1 a2)) m1 m2) cs := fun d g q c F0 H0 f0 k0 Q hQ => by
  unfold s2 at q
  obtain ⟨a1, s1, q1, q⟩ := sC_some q
  obtain ⟨a2, s2, q2, q⟩ := sC_some q
  refine (h1) a1 s1 q1 c F0 H0 f0 k0 _ fun v1 F1 H1 e1 k1 x1 => ?_
  have f1 := f0.trans e1
  have g1 := e1
  refine (h2 s1) a2 s2 q2 c F1 H1 f1 k1 _ fun v2 F2 H2 e2 k2 x2 => ?_
  have f2 := f1.trans e2
  have g2 := g1.trans e2
  obtain ⟨qq, eg⟩ := sP_some q
  subst eg
  exact ⟨F2, v1, v2, a1, a2, d, rfl, k2.ex, r1.up (e2) x1, x2, qq, fun p F9 H9 k9 => hQ p F9 H9 (g2.trans k9.fz) (k2.call0n k9) (k2.dom p (Or.resolve_left (k9.old_new (p, cLst rr d) List.mem_cons_self) List.not_mem_nil))⟩
theorem sm_Mcall2 {α1 α2 ρ : Type} {r1 : Rp α1} {r2 : Rp α2} {rr : Rp ρ} {E : XK} {t1 t2 : TE} {cell : γ → Cp} {p : Addr} {i0 j0 : Nat} {m : γ → α1 → α2 → Option (ρ × γ)} {m1 : Option (α1 × γ)} {m2 : γ → Option (α2 × γ)} (hv : σ[i0]? = some (some (.ref p))) (hi : ∀ s, (cs s)[j0]? = some (p, cell s)) (hz : ∀ s s2, (cs s).set j0 (p, cell s2) = cs s2) (h1 : SM r1 t1 σ F (cs s) (m1) cs) (h2 : ∀ s, SM r2 t2 σ F (cs s) (m2 s) cs) : SM rr (tCall (MPsp2 cell r1 r2 rr m) [] E (tCons (tVar i0) (tCons t1 (tCons t2 tNil)))) σ F (cs s) (s2 (fun a1 a2 s => m s a1 a2) m1 m2) cs := fun d g q c F0 H0 f0 k0 Q hQ => by
  refine ⟨_, hv, ?_⟩
  unfold s2 at q
  obtain ⟨a1, s1, q1, q⟩ := sC_some q
  obtain ⟨a2, s2, q2, q⟩ := sC_some q
  refine (h1) a1 s1 q1 c F0 H0 f0 k0 _ fun v1 F1 H1 e1 k1 x1 => ?_
  have f1 := f0.trans e1
  have g1 := e1
  refine (h2 s1) a2 s2 q2 c F1 H1 f1 k1 _ fun v2 F2 H2 e2 k2 x2 => ?_
  have f2 := f1.trans e2
  have g2 := g1.trans e2
  exact ⟨F2, p, v1, v2, s2, a1, a2, d, g, rfl, k2.preAt j0 (hi s2), r1.up (e2) x1, x2, q, fun v F9 H9 k9 r9 => hQ v F9 H9 (g2.trans k9.fz) (by have z := k2.callAt j0 (hi s2) k9; rw [hz] at z; exact z) r9⟩
theorem sf_Mcall2 {α1 α2 ρ : Type} {r1 : Rp α1} {r2 : Rp α2} {rr : Rp ρ} {E : XK} {t1 t2 : TE} {cell : γ → Cp} {p : Addr} {i0 j0 : Nat} {m : γ → α1 → α2 → Option (List ρ × γ)} {m1 : Option (α1 × γ)} {m2 : γ → Option (α2 × γ)} (hv : σ[i0]? = some (some (.ref p))) (hi : ∀ s, (cs s)[j0]? = some (p, cell s)) (hz : ∀ s s2, (cs s).set j0 (p, cell s2) = cs s2) (h1 : SM r1 t1 σ F (cs s) (m1) cs) (h2 : ∀ s, SM r2 t2 σ F (cs s) (m2 s) cs) : SF rr (tCall (MFsp2 cell r1 r2 rr m) [] E (tCons (tVar i0) (tCons t1 (tCons t2 tNil)))) σ F (cs s) (s2 (fun a1 a2 s => m s a1 a2) m1 m2) cs := fun d g q c F0 H0 f0 k0 Q hQ => by
  refine ⟨_, hv, ?_⟩
  unfold s2 at q
  obtain ⟨a1, s1, q1, q⟩ := sC_some q
  obtain ⟨a2, s2, q2, q⟩ := sC_some q
  refine (h1) a1 s1 q1 c F0 H0 f0 k0 _ fun v1 F1 H1 e1 k1 x1 => ?_
  have f1 := f0.trans e1
  have g1 := e1
  refine (h2 s1) a2 s2 q2 c F1 H1 f1 k1 _ fun v2 F2 H2 e2 k2 x2 => ?_
  have f2 := f1.trans e2
  have g2 := g1.trans e2
  exact ⟨F2, p, v1, v2, s2, a1, a2, d, g, rfl, k2.preAt j0 (hi s2), r1.up (e2) x1, x2, q, fun l F9 H9 k9 => hQ l F9 H9 (g2.trans k9.fz) (by have z := k2.callAtN j0 (hi s2) k9; rw [hz] at z; exact z) (k2.dom l (k9.newOf))⟩
theorem sm_Pcall3 {α1 α2 α3 ρ : Type} {r1 : Rp α1} {r2 : Rp α2} {r3 : Rp α3} {rr : Rp ρ} {E : XK} {t1 t2 t3 : TE} {m : α1 → α2 → α3 → Option ρ} {m1 : Option (α1 × γ)} {m2 : γ → Option (α2 × γ)} {m3 : γ → Option (α3 × γ)} (h1 : SM r1 t1 σ F (cs s) (m1) cs) (h2 : ∀ s, SM r2 t2 σ F (cs s) (m2 s) cs) (h3 : ∀ s, SM r3 t3 σ F (cs s) (m3 s) cs) : SM rr (tCall (Psp3 r1 r2 r3 rr m) [] E (tCons t1 (tCons t2 (tCons t3 tNil)))) σ F (cs s) (s3 (fun a1 a2 a3 s => sK s (m a1 a2 a3)) m1 m2 m3) cs := fun d g q c F0 H0 f0 k0 Q hQ => by
  unfold s3 at q
  obtain ⟨a1, s1, q1, q⟩ := sC_some q
  obtain ⟨a2, s2, q2, q⟩ := sC_some q
  obtain ⟨a3, s3, q3, q⟩ := sC_some q
  refine (h1) a1 s1 q1 c F0 H0 f0 k0 _ fun v1 F1 H1 e1 k1 x1 => ?_
  have f1 := f0.trans e1
  have g1 := e1
  refine (h2 s1) a2 s2 q2 c F1 H1 f1 k1 _ fun v2 F2 H2 e2 k2 x2 => ?_
  have f2 := f1.trans e2
  have g2 := g1.trans e2
  refine (h3 s2) a3 s3 q3 c F2 H2 f2 k2 _ fun v3 F3 H3 e3 k3 x3 => ?_
  have f3 := f2.trans e3
  have g3 := g2.trans e3
  obtain ⟨qq, eg⟩ := sP_some q
  subst eg
  exact ⟨F3, v1, v2, v3, a1, a2, a3, d, rfl, k3.ex, r1.up ((e2).trans e3) x1, r2.up (e3) x2, x3, qq, fun v F9 H9 k9 r9 => hQ v F9 H9 (g3.trans k9.fz) (k3.call0 k9) r9⟩
theorem sf_Fcall3 {α1 α2 α3 ρ : Type} {r1 : Rp α1} {r2 : Rp α2} {r3 : Rp α3} {rr : Rp ρ} {E : XK} {t1 t2 t3 : TE} {m : α1 → α2 → α3 → Option (List ρ)} {m1 : Option (α1 × γ)} {m2 : γ → Option (α2 × γ)} {m3 : γ → Option (α3 × γ)} (h1 : SM r1 t1 σ F (cs s) (m1) cs) (h2 : ∀ s, SM r2 t2 σ F (cs s) (m2 s) cs) (h3 : ∀ s, SM r3 t3 σ F (cs s) (m3 s) cs) : SF rr (tCall (Fsp3 r1 r2 r3 rr m) [] E (tCons t1 (tCons t2 (tCons t3 tNil)))) σ F (cs s) (s3 (fun a1 a2 a3 s => sK s (m a1 a2 a3)) m1 m2 m3) cs := fun d g q c F0 H0 f0 k0 Q hQ => by
  unfold s3 at q
  obtain ⟨a1, s1, q1, q⟩ := sC_some q
  obtain ⟨a2, s2, q2, q⟩ := sC_some q
  obtain ⟨a3, s3, q3, q⟩ := sC_some q
  refine (h1) a1 s1 q1 c F0 H0 f0 k0 _ fun v1 F1 H1 e1 k1 x1 => ?_
  have f1 := f0.trans e1
  have g1 := e1
  refine (h2 s1) a2 s2 q2 c F1 H1 f1 k1 _ fun v2 F2 H2 e2 k2 x2 => ?_
  have f2 := f1.trans e2
  have g2 := g1.trans e2
  refine (h3 s2) a3 s3 q3 c F2 H2 f2 k2 _ fun v3 F3 H3 e3 k3 x3 => ?_
  have f3 := f2.trans e3
  have g3 := g2.trans e3
  obtain ⟨qq, eg⟩ := sP_some q
  subst eg
  exact ⟨F3, v1, v2, v3, a1, a2, a3, d, rfl, k3.ex, r1.up ((e2).trans e3) x1, r2.up (e3) x2, x3, qq, fun p F9 H9 k9 => hQ p F9 H9 (g3.trans k9.fz) (k3.call0n k9) (k3.dom p (Or.resolve_left (k9.old_new (p, cLst rr d) List.mem_cons_self) List.not_mem_nil))⟩
theorem sm_Mcall3 {α1 α2 α3 ρ : Type} {r1 : Rp α1} {r2 : Rp α2} {r3 : Rp α3} {rr : Rp ρ} {E : XK} {t1 t2 t3 : TE} {cell : γ → Cp} {p : Addr} {i0 j0 : Nat} {m : γ → α1 → α2 → α3 → Option (ρ × γ)} {m1 : Option (α1 × γ)} {m2 : γ → Option (α2 × γ)} {m3 : γ → Option (α3 × γ)} (hv : σ[i0]? = some (some (.ref p))) (hi : ∀ s, (cs s)[j0]? = some (p, cell s)) (hz : ∀ s s2, (cs s).set j0 (p, cell s2) = cs s2) (h1 : SM r1 t1 σ F (cs s) (m1) cs) (h2 : ∀ s, SM r2 t2 σ F (cs s) (m2 s) cs) (h3 : ∀ s, SM r3 t3 σ F (cs s) (m3 s) cs) : SM rr (tCall (MPsp3 cell r1 r2 r3 rr m) [] E (tCons (tVar i0) (tCons t1 (tCons t2 (tCons t3 tNil))))) σ F (cs s) (s3 (fun a1 a2 a3 s => m s a1 a2 a3) m1 m2 m3) cs := fun d g q c F0 H0 f0 k0 Q hQ => by
  refine ⟨_, hv, ?_⟩
  unfold s3 at q
  obtain ⟨a1, s1, q1, q⟩ := sC_some q
  obtain ⟨a2, s2, q2, q⟩ := sC_some q
  obtain ⟨a3, s3, q3, q⟩ := sC_some q
  refine (h1) a1 s1 q1 c F0 H0 f0 k0 _ fun v1 F1 H1 e1 k1 x1 => ?_
  have f1 := f0.trans e1
  have g1 := e1
  refine (h2 s1) a2 s2 q2 c F1 H1 f1 k1 _ fun v2 F2 H2 e2 k2 x2 => ?_
  have f2 := f1.trans e2
  have g2 := g1.trans e2
  refine (h3 s2) a3 s3 q3 c F2 H2 f2 k2 _ fun v3 F3 H3 e3 k3 x3 => ?_
  have f3 := f2.trans e3
  have g3 := g2.trans e3
  exact ⟨F3, p, v1, v2, v3, s3, a1, a2, a3, d, g, rfl, k3.preAt j0 (hi s3), r1.up ((e2).trans e3) x1, r2.up (e3) x2, x3, q, fun v F9 H9 k9 r9 => hQ v F9 H9 (g3.trans k9.fz) (by have z := k3.callAt j0 (hi s3) k9; rw [hz] at z; exact z) r9⟩
theorem sf_Mcall3 {α1 α2 α3 ρ : Type} {r1 : Rp α1} {r2 : Rp α2} {r3 : Rp α3} {rr : Rp ρ} {E : XK} {t1 t2 t3 : TE} {cell : γ → Cp} {p : Addr} {i0 j0 : Nat} {m : γ → α1 → α2 → α3 → Option (List ρ × γ)} {m1 : Option (α1 × γ)} {m2 : γ → Option (α2 × γ)} {m3 : γ → Option (α3 × γ)} (hv : σ[i0]? = some (some (.ref p))) (hi : ∀ s, (cs s)[j0]? = some (p, cell s)) (hz : ∀ s s2, (cs s).set j0 (p, cell s2) = cs s2) (h1 : SM r1 t1 σ F (cs s) (m1) cs) (h2 : ∀ s, SM r2 t2 σ F (cs s) (m2 s) cs) (h3 : ∀ s, SM r3 t3 σ F (cs s) (m3 s) cs) : SF rr (tCall (MFsp3 cell r1 r2 r3 rr m) [] E (tCons (tVar i0) (tCons t1 (tCons t2 (tCons t3 tNil))))) σ F (cs s) (s3 (fun a1 a2 a3 s => m s a1 a2 a3) m1 m2 m3) cs := fun d g q c F0 H0 f0 k0 Q hQ => by
  refine ⟨_, hv, ?_⟩
  unfold s3 at q
  obtain ⟨a1, s1, q1, q⟩ := sC_some q
  obtain ⟨a2, s2, q2, q⟩ := sC_some q
  obtain ⟨a3, s3, q3, q⟩ := sC_some q
  refine (h1) a1 s1 q1 c F0 H0 f0 k0 _ fun v1 F1 H1 e1 k1 x1 => ?_
  have f1 := f0.trans e1
  have g1 := e1
  refine (h2 s1) a2 s2 q2 c F1 H1 f1 k1 _ fun v2 F2 H2 e2 k2 x2 => ?_
  have f2 := f1.trans e2
  have g2 := g1.trans e2
  refine (h3 s2) a3 s3 q3 c F2 H2 f2 k2 _ fun v3 F3 H3 e3 k3 x3 => ?_
  have f3 := f2.trans e3
  have g3 := g2.trans e3
  exact ⟨F3, p, v1, v2, v3, s3, a1, a2, a3, d, g, rfl, k3.preAt j0 (hi s3), r1.up ((e2).trans e3) x1, r2.up (e3) x2, x3, q, fun l F9 H9 k9 => hQ l F9 H9 (g3.trans k9.fz) (by have z := k3.callAtN j0 (hi s3) k9; rw [hz] at z; exact z) (k3.dom l (k9.newOf))⟩
theorem sm_Pcall4 {α1 α2 α3 α4 ρ : Type} {r1 : Rp α1} {r2 : Rp α2} {r3 : Rp α3} {r4 : Rp α4} {rr : Rp ρ} {E : XK} {t1 t2 t3 t4 : TE} {m : α1 → α2 → α3 → α4 → Option ρ} {m1 : Option (α1 × γ)} {m2 : γ → Option (α2 × γ)} {m3 : γ → Option (α3 × γ)} {m4 : γ → Option (α4 × γ)} (h1 : SM r1 t1 σ F (cs s) (m1) cs) (h2 : ∀ s, SM r2 t2 σ F (cs s) (m2 s) cs) (h3 : ∀ s, SM r3 t3 σ F (cs s) (m3 s) cs) (h4 : ∀ s, SM r4 t4 σ F (cs s) (m4 s) cs) : SM rr (tCall (Psp4 r1 r2 r3 r4 rr m) [] E (tCons t1 (tCons t2 (tCons t3 (tCons t4 tNil))))) σ F (cs s) (s4 (fun a1 a2 a3 a4 s => sK s (m a1 a2 a3 a4)) m1 m2 m3 m4) cs := fun d g q c F0 H0 f0 k0 Q hQ => by
  unfold s4 at q
  obtain ⟨a1, s1, q1, q⟩ := sC_some q
  obtain ⟨a2, s2, q2, q⟩ := sC_some q
  obtain ⟨a3, s3, q3, q⟩ := sC_some q
  obtain ⟨a4, s4, q4, q⟩ := sC_some q
  refine (h1) a1 s1 q1 c F0 H0 f0 k0 _ fun v1 F1 H1 e1 k1 x1 => ?_
  have f1 := f0.trans e1
  have g1 := e1
  refine (h2 s1) a2 s2 q2 c F1 H1 f1 k1 _ fun v2 F2 H2 e2 k2 x2 => ?_
  have f2 := f1.trans e2
  have g2 := g1.trans e2
  refine (h3 s2) a3 s3 q3 c F2 H2 f2 k2 _ fun v3 F3 H3 e3 k3 x3 => ?_
  have f3 := f2.trans e3
  have g3 := g2.trans e3
  refine (h4 s3) a4 s4 q4 c F3 H3 f3 k3 _ fun v4 F4 H4 e4 k4 x4 => ?_
  have f4 := f3.trans e4
  have g4 := g3.trans e4
  obtain ⟨qq, eg⟩ := sP_some q
  subst eg
  exact ⟨F4, v1, v2, v3, v4, a1, a2, a3, a4, d, rfl, k4.ex, r1.up (((e2).trans e3).trans e4) x1, r2.up ((e3).trans e4) x2, r3.up (e4) x3, x4, qq, fun v F9 H9 k9 r9 => hQ v F9 H9 (g4.trans k9.fz) (k4.call0 k9) r9⟩
theorem sf_Fcall4 {α1 α2 α3 α4 ρ : Type} {r1 : Rp α1} {r2 : Rp α2} {r3 : Rp α3} {r4 : Rp α4} {rr : Rp ρ} {E : XK} {t1 t2 t3 t4 : TE} {m : α1 → α2 → α3 → α4 → Option (List ρ)} {m1 : Option (α1 × γ)} {m2 : γ → Option (α2 × γ)} {m3 : γ → Option (α3 × γ)} {m4 : γ → Option (α4 × γ)} (h1 : SM r1 t1 σ F (cs s) (m1) cs) (h2 : ∀ s, SM r2 t2 σ F (cs s) (m2 s) cs) (h3 : ∀ s, SM r3 t3 σ F (cs s) (m3 s) cs) (h4 : ∀ s, SM r4 t4 σ F (cs s) (m4 s) cs) : SF rr (tCall (Fsp4 r1 r2 r3 r4 rr m) [] E (tCons t1 (tCons t2 (tCons t3 (tCons t4 tNil))))) σ F (cs s) (s4 (fun a1 a2 a3 a4 s => sK s (m a1 a2 a3 a4)) m1 m2 m3 m4) cs := fun d g q c F0 H0 f0 k0 Q hQ => by
  unfold s4 at q
  obtain ⟨a1, s1, q1, q⟩ := sC_some q
  obtain ⟨a2, s2, q2, q⟩ := sC_some q
  obtain ⟨a3, s3, q3, q⟩ := sC_some q
  obtain ⟨a4, s4, q4, q⟩ := sC_some q
  refine (h1) a1 s1 q1 c F0 H0 f0 k0 _ fun v1 F1 H1 e1 k1 x1 => ?_
  have f1 := f0.trans e1
  have g1 := e1
  refine (h2 s1) a2 s2 q2 c F1 H1 f1 k1 _ fun v2 F2 H2 e2 k2 x2 => ?_
  have f2 := f1.trans e2
  have g2 := g1.trans e2
  refine (h3 s2) a3 s3 q3 c F2 H2 f2 k2 _ fun v3 F3 H3 e3 k3 x3 => ?_
  have f3 := f2.trans e3
  have g3 := g2.trans e3
  refine (h4 s3) a4 s4 q4 c F3 H3 f3 k3 _ fun v4 F4 H4 e4 k4 x4 => ?_
  have f4 := f3.trans e4
  have g4 := g3.trans e4
  obtain ⟨qq, eg⟩ := sP_some q
  subst eg
  exact ⟨F4, v1, v2, v3, v4, a1, a2, a3, a4, d, rfl, k4.ex, r1.up (((e2).trans e3).trans e4) x1, r2.up ((e3).trans e4) x2, r3.up (e4) x3, x4, qq, fun p F9 H9 k9 => hQ p F9 H9 (g4.trans k9.fz) (k4.call0n k9) (k4.dom p (Or.resolve_left (k9.old_new (p, cLst rr d) List.mem_cons_self) List.not_mem_nil))⟩
theorem sm_Mcall4 {α1 α2 α3 α4 ρ : Type} {r1 : Rp α1} {r2 : Rp α2} {r3 : Rp α3} {r4 : Rp α4} {rr : Rp ρ} {E : XK} {t1 t2 t3 t4 : TE} {cell : γ → Cp} {p : Addr} {i0 j0 : Nat} {m : γ → α1 → α2 → α3 → α4 → Option (ρ × γ)} {m1 : Option (α1 × γ)} {m2 : γ → Option (α2 × γ)} {m3 : γ → Option (α3 × γ)} {m4 : γ → Option (α4 × γ)} (hv : σ[i0]? = some (some (.ref p))) (hi : ∀ s, (cs s)[j0]? = some (p, cell s)) (hz : ∀ s s2, (cs s).set j0 (p, cell s2) = cs s2) (h1 : SM r1 t1 σ F (cs s) (m1) cs) (h2 : ∀ s, SM r2 t2 σ F (cs s) (m2 s) cs) (h3 : ∀ s, SM r3 t3 σ F (cs s) (m3 s) cs) (h4 : ∀ s, SM r4 t4 σ F (cs s) (m4 s) cs) : SM rr (tCall (MPsp4 cell r1 r2 r3 r4 rr m) [] E (tCons (tVar i0) (tCons t1 (tCons t2 (tCons t3 (tCons t4 tNil)))))) σ F (cs s) (s4 (fun a1 a2 a3 a4 s => m s a1 a2 a3 a4) m1 m2 m3 m4) cs := fun d g q c F0 H0 f0 k0 Q hQ => by
  refine ⟨_, hv, ?_⟩
  unfold s4 at q
  obtain ⟨a1, s1, q1, q⟩ := sC_some q
  obtain ⟨a2, s2, q2, q⟩ := sC_some q
  obtain ⟨a3, s3, q3, q⟩ := sC_some q
  obtain ⟨a4, s4, q4, q⟩ := sC_some q
  refine (h1) a1 s1 q1 c F0 H0 f0 k0 _ fun v1 F1 H1 e1 k1 x1 => ?_
  have f1 := f0.trans e1
  have g1 := e1
  refine (h2 s1) a2 s2 q2 c F1 H1 f1 k1 _ fun v2 F2 H2 e2 k2 x2 => ?_
  have f2 := f1.trans e2
  have g2 := g1.trans e2
  refine (h3 s2) a3 s3 q3 c F2 H2 f2 k2 _ fun v3 F3 H3 e3 k3 x3 => ?_
  have f3 := f2.trans e3
  have g3 := g2.trans e3
  refine (h4 s3) a4 s4 q4 c F3 H3 f3 k3 _ fun v4 F4 H4 e4 k4 x4 => ?_
  have f4 := f3.trans e4
  have g4 := g3.trans e4
  exact ⟨F4, p, v1, v2, v3, v4, s4, a1, a2, a3, a4, d, g, rfl, k4.preAt j0 (hi s4), r1.up (((e2).trans e3).trans e4) x1, r2.up ((e3).trans e4) x2, r3.up (e4) x3, x4, q, fun v F9 H9 k9 r9 => hQ v F9 H9 (g4.trans k9.fz) (by have z := k4.callAt j0 (hi s4) k9; rw [hz] at z; exact z) r9⟩
theorem sf_Mcall4 {α1 α2 α3 α4 ρ : Type} {r1 : Rp α1} {r2 : Rp α2} {r3 : Rp α3} {r4 : Rp α4} {rr : Rp ρ} {E : XK} {t1 t2 t3 t4 : TE} {cell : γ → Cp} {p : Addr} {i0 j0 : Nat} {m : γ → α1 → α2 → α3 → α4 → Option (List ρ × γ)} {m1 : Option (α1 × γ)} {m2 : γ → Option (α2 × γ)} {m3 : γ → Option (α3 × γ)} {m4 : γ → Option (α4 × γ)} (hv : σ[i0]? = some (some (.ref p))) (hi : ∀ s, (cs s)[j0]? = some (p, cell s)) (hz : ∀ s s2, (cs s).set j0 (p, cell s2) = cs s2) (h1 : SM r1 t1 σ F (cs s) (m1) cs) (h2 : ∀ s, SM r2 t2 σ F (cs s) (m2 s) cs) (h3 : ∀ s, SM r3 t3 σ F (cs s) (m3 s) cs) (h4 : ∀ s, SM r4 t4 σ F (cs s) (m4 s) cs) : SF rr (tCall (MFsp4 cell r1 r2 r3 r4 rr m) [] E (tCons (tVar i0) (tCons t1 (tCons t2 (tCons t3 (tCons t4 tNil)))))) σ F (cs s) (s4 (fun a1 a2 a3 a4 s => m s a1 a2 a3 a4) m1 m2 m3 m4) cs := fun d g q c F0 H0 f0 k0 Q hQ => by
  refine ⟨_, hv, ?_⟩
  unfold s4 at q
  obtain ⟨a1, s1, q1, q⟩ := sC_some q
  obtain ⟨a2, s2, q2, q⟩ := sC_some q
  obtain ⟨a3, s3, q3, q⟩ := sC_some q
  obtain ⟨a4, s4, q4, q⟩ := sC_some q
  refine (h1) a1 s1 q1 c F0 H0 f0 k0 _ fun v1 F1 H1 e1 k1 x1 => ?_
  have f1 := f0.trans e1
  have g1 := e1
  refine (h2 s1) a2 s2 q2 c F1 H1 f1 k1 _ fun v2 F2 H2 e2 k2 x2 => ?_
  have f2 := f1.trans e2
  have g2 := g1.trans e2
  refine (h3 s2) a3 s3 q3 c F2 H2 f2 k2 _ fun v3 F3 H3 e3 k3 x3 => ?_
  have f3 := f2.trans e3
  have g3 := g2.trans e3
  refine (h4 s3) a4 s4 q4 c F3 H3 f3 k3 _ fun v4 F4 H4 e4 k4 x4 => ?_
  have f4 := f3.trans e4
  have g4 := g3.trans e4
  exact ⟨F4, p, v1, v2, v3, v4, s4, a1, a2, a3, a4, d, g, rfl, k4.preAt j0 (hi s4), r1.up (((e2).trans e3).trans e4) x1, r2.up ((e3).trans e4) x2, r3.up (e4) x3, x4, q, fun l F9 H9 k9 => hQ l F9 H9 (g4.trans k9.fz) (by have z := k4.callAtN j0 (hi s4) k9; rw [hz] at z; exact z) (k4.dom l (k9.newOf))⟩
theorem sm_Pcall5 {α1 α2 α3 α4 α5 ρ : Type} {r1 : Rp α1} {r2 : Rp α2} {r3 : Rp α3} {r4 : Rp α4} {r5 : Rp α5} {rr : Rp ρ} {E : XK} {t1 t2 t3 t4 t5 : TE} {m : α1 → α2 → α3 → α4 → α5 → Option ρ} {m1 : Option (α1 × γ)} {m2 : γ → Option (α2 × γ)} {m3 : γ → Option (α3 × γ)} {m4 : γ → Option (α4 × γ)} {m5 : γ → Option (α5 × γ)} (h1 : SM r1 t1 σ F (cs s) (m1) cs) (h2 : ∀ s, SM r2 t2 σ F (cs s) (m2 s) cs) (h3 : ∀ s, SM r3 t3 σ F (cs s) (m3 s) cs) (h4 : ∀ s, SM r4 t4 σ F (cs s) (m4 s) cs) (h5 : ∀ s, SM r5 t5 σ F (cs s) (m5 s) cs) : SM rr (tCall (Psp5 r1 r2 r3 r4 r5 rr m) [] E (tCons t1 (tCons t2 (tCons t3 (tCons t4 (tCons t5 tNil)))))) σ F (cs s) (s5 (fun a1 a2 a3 a4 a5 s => sK s (m a1 a2 a3 a4 a5)) m1 m2 m3 m4 m5) cs := fun d g q c F0 H0 f0 k0 Q hQ => by
  unfold s5 at q
  obtain ⟨a1, s1, q1, q⟩ := sC_some q
  obtain ⟨a2, s2, q2, q⟩ := sC_some q
  obtain ⟨a3, s3, q3, q⟩ := sC_some q
  obtain ⟨a4, s4, q4, q⟩ := sC_some q
  obtain ⟨a5, s5, q5, q⟩ := sC_some q
  refine (h1) a1 s1 q1 c F0 H0 f0 k0 _ fun v1 F1 H1 e1 k1 x1 => ?_
  have f1 := f0.trans e1
  have g1 := e1
  refine (h2 s1) a2 s2 q2 c F1 H1 f1 k1 _ fun v2 F2 H2 e2 k2 x2 => ?_
  have f2 := f1.trans e2
  have g2 := g1.trans e2
  refine (h3 s2) a3 s3 q3 c F2 H2 f2 k2 _ fun v3 F3 H3 e3 k3 x3 => ?_
  have f3 := f2.trans e3
  have g3 := g2.trans e3
  refine (h4 s3) a4 s4 q4 c F3 H3 f3 k3 _ fun v4 F4 H4 e4 k4 x4 => ?_
  have f4 := f3.trans e4
  have g4 := g3.trans e4
  refine (h5 s4) a5 s5 q5 c F4 H4 f4 k4 _ fun v5 F5 H5 e5 k5 x5 => ?_
  have f5 := f4.trans e5
  have g5 := g4.trans e5
  obtain ⟨qq, eg⟩ := sP_some q
  subst eg
  exact ⟨F5, v1, v2, v3, v4, v5, a1, a2, a3, a4, a5, d, rfl, k5.ex, r1.up ((((e2).trans e3).trans e4).trans e5) x1, r2.up (((e3).trans e4).trans e5) x2, r3.up ((e4).trans e5) x3, r4.up (e5) x4, x5, qq, fun v F9 H9 k9 r9 => hQ v F9 H9 (g5.trans k9.fz) (k5.call0 k9) r9⟩
theorem sf_Fcall5 {α1 α2 α3 α4 α5 ρ : Type} {r1 : Rp α1} {r2 : Rp α2} {r3 : Rp α3} {r4 : Rp α4} {r5 : Rp α5} {rr : Rp ρ} {E : XK} {t1 t2 t3 t4 t5 : TE} {m : α1 → α2 → α3 → α4 → α5 → Option (List ρ)} {m1 : Option (α1 × γ)} {m2 : γ → Option (α2 × γ)} {m3 : γ → Option (α3 × γ)} {m4 : γ → Option (α4 × γ)} {m5 : γ → Option (α5 × γ)} (h1 : SM r1 t1 σ F (cs s) (m1) cs) (h2 : ∀ s, SM r2 t2 σ F (cs s) (m2 s) cs) (h3 : ∀ s, SM r3 t3 σ F (cs s) (m3 s) cs) (h4 : ∀ s, SM r4 t4 σ F (cs s) (m4 s) cs) (h5 : ∀ s, SM r5 t5 σ F (cs s) (m5 s) cs) : SF rr (tCall (Fsp5 r1 r2 r3 r4 r5 rr m) [] E (tCons t1 (tCons t2 (tCons t3 (tCons t4 (tCons t5 tNil)))))) σ F (cs s) (s5 (fun a1 a2 a3 a4 a5 s => sK s (m a1 a2 a3 a4 a5)) m1 m2 m3 m4 m5) cs := fun d g q c F0 H0 f0 k0 Q hQ => by
  unfold s5 at q
  obtain ⟨a1, s1, q1, q⟩ := sC_some q
  obtain ⟨a2, s2, q2, q⟩ := sC_some q
  obtain ⟨a3, s3, q3, q⟩ := sC_some q
  obtain ⟨a4, s4, q4, q⟩ := sC_some q
  obtain ⟨a5, s5, q5, q⟩ := sC_some q
  refine (h1) a1 s1 q1 c F0 H0 f0 k0 _ fun v1 F1 H1 e1 k1 x1 => ?_
  have f1 := f0.trans e1
  have g1 := e1
  refine (h2 s1) a2 s2 q2 c F1 H1 f1 k1 _ fun v2 F2 H2 e2 k2 x2 => ?_
  have f2 := f1.trans e2
  have g2 := g1.trans e2
  refine (h3 s2) a3 s3 q3 c F2 H2 f2 k2 _ fun v3 F3 H3 e3 k3 x3 => ?_
  have f3 := f2.trans e3
  have g3 := g2.trans e3
  refine (h4 s3) a4 s4 q4 c F3 H3 f3 k3 _ fun v4 F4 H4 e4 k4 x4 => ?_
  have f4 := f3.trans e4
  have g4 := g3.trans e4
  refine (h5 s4) a5 s5 q5 c F4 H4 f4 k4 _ fun v5 F5 H5 e5 k5 x5 => ?_
  have f5 := f4.trans e5
  have g5 := g4.trans e5
  obtain ⟨qq, eg⟩ := sP_some q
  subst eg
  exact ⟨F5, v1, v2, v3, v4, v5, a1, a2, a3, a4, a5, d, rfl, k5.ex, r1.up ((((e2).trans e3).trans e4).trans e5) x1, r2.up (((e3).trans e4).trans e5) x2, r3.up ((e4).trans e5) x3, r4.up (e5) x4, x5, qq, fun p F9 H9 k9 => hQ p F9 H9 (g5.trans k9.fz) (k5.call0n k9) (k5.dom p (Or.resolve_left (k9.old_new (p, cLst rr d) List.mem_cons_self) List.not_mem_nil))⟩
theorem sm_Mcall5 {α1 α2 α3 α4 α5 ρ : Type} {r1 : Rp α1} {r2 : Rp α2} {r3 : Rp α3} {r4 : Rp α4} {r5 : Rp α5} {rr : Rp ρ} {E : XK} {t1 t2 t3 t4 t5 : TE} {cell : γ → Cp} {p : Addr} {i0 j0 : Nat} {m : γ → α1 → α2 → α3 → α4 → α5 → Option (ρ × γ)} {m1 : Option (α1 × γ)} {m2 : γ → Option (α2 × γ)} {m3 : γ → Option (α3 × γ)} {m4 : γ → Option (α4 × γ)} {m5 : γ → Option (α5 × γ)} (hv : σ[i0]? = some (some (.ref p))) (hi : ∀ s, (cs s)[j0]? = some (p, cell s)) (hz : ∀ s s2, (cs s).set j0 (p, cell s2) = cs s2) (h1 : SM r1 t1 σ F (cs s) (m1) cs) (h2 : ∀ s, SM r2 t2 σ F (cs s) (m2 s) cs) (h3 : ∀ s, SM r3 t3 σ F (cs s) (m3 s) cs) (h4 : ∀ s, SM r4 t4 σ F (cs s) (m4 s) cs) (h5 : ∀ s, SM r5 t5 σ F (cs s) (m5 s) cs) : SM rr (tCall (MPsp5 cell r1 r2 r3 r4 r5 rr m) [] E (tCons (tVar i0) (tCons t1 (tCons t2 (tCons t3 (tCons t4 (tCons t5 tNil))))))) σ F (cs s) (s5 (fun a1 a2 a3 a4 a5 s => m s a1 a2 a3 a4 a5) m1 m2 m3 m4 m5) cs := fun d g q c F0 H0 f0 k0 Q hQ => by
  refine ⟨_, hv, ?_⟩
  unfold s5 at q
  obtain ⟨a1, s1, q1, q⟩ := sC_some q
  obtain ⟨a2, s2, q2, q⟩ := sC_some q
  obtain ⟨a3, s3, q3, q⟩ := sC_some q
  obtain ⟨a4, s4, q4, q⟩ := sC_some q
  obtain ⟨a5, s5, q5, q⟩ := sC_some q
  refine (h1) a1 s1 q1 c F0 H0 f0 k0 _ fun v1 F1 H1 e1 k1 x1 => ?_
  have f1 := f0.trans e1
  have g1 := e1
  refine (h2 s1) a2 s2 q2 c F1 H1 f1 k1 _ fun v2 F2 H2 e2 k2 x2 => ?_
  have f2 := f1.trans e2
  have g2 := g1.trans e2
  refine (h3 s2) a3 s3 q3 c F2 H2 f2 k2 _ fun v3 F3 H3 e3 k3 x3 => ?_
  have f3 := f2.trans e3
  have g3 := g2.trans e3
  refine (h4 s3) a4 s4 q4 c F3 H3 f3 k3 _ fun v4 F4 H4 e4 k4 x4 => ?_
  have f4 := f3.trans e4
  have g4 := g3.trans e4
  refine (h5 s4) a5 s5 q5 c F4 H4 f4 k4 _ fun v5 F5 H5 e5 k5 x5 => ?_
  have f5 := f4.trans e5
  have g5 := g4.trans e5
  exact ⟨F5, p, v1, v2, v3, v4, v5, s5, a1, a2, a3, a4, a5, d, g, rfl, k5.preAt j0 (hi s5), r1.up ((((e2).trans e3).trans e4).trans e5) x1, r2.up (((e3).trans e4).trans e5) x2, r3.up ((e4).trans e5) x3, r4.up (e5) x4, x5, q, fun v F9 H9 k9 r9 => hQ v F9 H9 (g5.trans k9.fz) (by have z := k5.callAt j0 (hi s5) k9; rw [hz] at z; exact z) r9⟩
theorem sf_Mcall5 {α1 α2 α3 α4 α5 ρ : Type} {r1 : Rp α1} {r2 : Rp α2} {r3 : Rp α3} {r4 : Rp α4} {r5 : Rp α5} {rr : Rp ρ} {E : XK} {t1 t2 t3 t4 t5 : TE} {cell : γ → Cp} {p : Addr} {i0 j0 : Nat} {m : γ → α1 → α2 → α3 → α4 → α5 → Option (List ρ × γ)} {m1 : Option (α1 × γ)} {m2 : γ → Option (α2 × γ)} {m3 : γ → Option (α3 × γ)} {m4 : γ → Option (α4 × γ)} {m5 : γ → Option (α5 × γ)} (hv : σ[i0]? = some (some (.ref p))) (hi : ∀ s, (cs s)[j0]? = some (p, cell s)) (hz : ∀ s s2, (cs s).set j0 (p, cell s2) = cs s2) (h1 : SM r1 t1 σ F (cs s) (m1) cs) (h2 : ∀ s, SM r2 t2 σ F (cs s) (m2 s) cs) (h3 : ∀ s, SM r3 t3 σ F (cs s) (m3 s) cs) (h4 : ∀ s, SM r4 t4 σ F (cs s) (m4 s) cs) (h5 : ∀ s, SM r5 t5 σ F (cs s) (m5 s) cs) : SF rr (tCall (MFsp5 cell r1 r2 r3 r4 r5 rr m) [] E (tCons (tVar i0) (tCons t1 (tCons t2 (tCons t3 (tCons t4 (tCons t5 tNil))))))) σ F (cs s) (s5 (fun a1 a2 a3 a4 a5 s => m s a1 a2 a3 a4 a5) m1 m2 m3 m4 m5) cs := fun d g q c F0 H0 f0 k0 Q hQ => by
  refine ⟨_, hv, ?_⟩
  unfold s5 at q
  obtain ⟨a1, s1, q1, q⟩ := sC_some q
  obtain ⟨a2, s2, q2, q⟩ := sC_some q
  obtain ⟨a3, s3, q3, q⟩ := sC_some q
  obtain ⟨a4, s4, q4, q⟩ := sC_some q
  obtain ⟨a5, s5, q5, q⟩ := sC_some q
  refine (h1) a1 s1 q1 c F0 H0 f0 k0 _ fun v1 F1 H1 e1 k1 x1 => ?_
  have f1 := f0.trans e1
  have g1 := e1
  refine (h2 s1) a2 s2 q2 c F1 H1 f1 k1 _ fun v2 F2 H2 e2 k2 x2 => ?_
  have f2 := f1.trans e2
  have g2 := g1.trans e2
  refine (h3 s2) a3 s3 q3 c F2 H2 f2 k2 _ fun v3 F3 H3 e3 k3 x3 => ?_
  have f3 := f2.trans e3
  have g3 := g2.trans e3
  refine (h4 s3) a4 s4 q4 c F3 H3 f3 k3 _ fun v4 F4 H4 e4 k4 x4 => ?_
  have f4 := f3.trans e4
  have g4 := g3.trans e4
  refine (h5 s4) a5 s5 q5 c F4 H4 f4 k4 _ fun v5 F5 H5 e5 k5 x5 => ?_
  have f5 := f4.trans e5
  have g5 := g4.trans e5
  exact ⟨F5, p, v1, v2, v3, v4, v5, s5, a1, a2, a3, a4, a5, d, g, rfl, k5.preAt j0 (hi s5), r1.up ((((e2).trans e3).trans e4).trans e5) x1, r2.up (((e3).trans e4).trans e5) x2, r3.up ((e4).trans e5) x3, r4.up (e5) x4, x5, q, fun l F9 H9 k9 => hQ l F9 H9 (g5.trans k9.fz) (by have z := k5.callAtN j0 (hi s5) k9; rw [hz] at z; exact z) (k5.dom l (k9.newOf))⟩
theorem sm_Pcall6 {α1 α2 α3 α4 α5 α6 ρ : Type} {r1 : Rp α1} {r2 : Rp α2} {r3 : Rp α3} {r4 : Rp α4} {r5 : Rp α5} {r6 : Rp α6} {rr : Rp ρ} {E : XK} {t1 t2 t3 t4 t5 t6 : TE} {m : α1 → α2 → α3 → α4 → α5 → α6 → Option ρ} {m1 : Option (α1 × γ)} {m2 : γ → Option (α2 × γ)} {m3 : γ → Option (α3 × γ)} {m4 : γ → Option (α4 × γ)} {m5 : γ → Option (α5 × γ)} {m6 : γ → Option (α6 × γ)} (h1 : SM r1 t1 σ F (cs s) (m1) cs) (h2 : ∀ s, SM r2 t2 σ F (cs s) (m2 s) cs) (h3 : ∀ s, SM r3 t3 σ F (cs s) (m3 s) cs) (h4 : ∀ s, SM r4 t4 σ F (cs s) (m4 s) cs) (h5 : ∀ s, SM r5 t5 σ F (cs s) (m5 s) cs) (h6 : ∀ s, SM r6 t6 σ F (cs s) (m6 s) cs) : SM rr (tCall (Psp6 r1 r2 r3 r4 r5 r6 rr m) [] E (tCons t1 (tCons t2 (tCons t3 (tCons t4 (tCons t5 (tCons t6 tNil))))))) σ F (cs s) (s6 (fun a1 a2 a3 a4 a5 a6 s => sK s (m a1 a2 a3 a4 a5 a6)) m1 m2 m3 m4 m5 m6) cs := fun d g q c F0 H0 f0 k0 Q hQ => by
  unfold s6 at q
  obtain ⟨a1, s1, q1, q⟩ := sC_some q
  obtain ⟨a2, s2, q2, q⟩ := sC_some q
  obtain ⟨a3, s3, q3, q⟩ := sC_some q
  obtain ⟨a4, s4, q4, q⟩ := sC_some q
  obtain ⟨a5, s5, q5, q⟩ := sC_some q
  obtain ⟨a6, s6, q6, q⟩ := sC_some q
  refine (h1) a1 s1 q1 c F0 H0 f0 k0 _ fun v1 F1 H1 e1 k1 x1 => ?_
  have f1 := f0.trans e1
  have g1 := e1
  refine (h2 s1) a2 s2 q2 c F1 H1 f1 k1 _ fun v2 F2 H2 e2 k2 x2 => ?_
  have f2 := f1.trans e2
  have g2 := g1.trans e2
  refine (h3 s2) a3 s3 q3 c F2 H2 f2 k2 _ fun v3 F3 H3 e3 k3 x3 => ?_
  have f3 := f2.trans e3
  have g3 := g2.trans e3
  refine (h4 s3) a4 s4 q4 c F3 H3 f3 k3 _ fun v4 F4 H4 e4 k4 x4 => ?_
  have f4 := f3.trans e4
  have g4 := g3.trans e4
  refine (h5 s4) a5 s5 q5 c F4 H4 f4 k4 _ fun v5 F5 H5 e5 k5 x5 => ?_
  have f5 := f4.trans e5
  have g5 := g4.trans e5
  refine (h6 s5) a6 s6 q6 c F5 H5 f5 k5 _ fun v6 F6 H6 e6 k6 x6 => ?_
  have f6 := f5.trans e6
  have g6 := g5.trans e6
  obtain ⟨qq, eg⟩ := sP_some q
  subst eg
  exact ⟨F6, v1, v2, v3, v4, v5, v6, a1, a2, a3, a4, a5, a6, d, rfl, k6.ex, r1.up (((((e2).trans e3).trans e4).trans e5).trans e6) x1, r2.up ((((e3).trans e4).trans e5).trans e6) x2, r3.up (((e4).trans e5).trans e6) x3, r4.up ((e5).trans e6) x4, r5.up (e6) x5, x6, qq, fun v F9 H9 k9 r9 => hQ v F9 H9 (g6.trans k9.fz) (k6.call0 k9) r9⟩
theorem sf_Fcall6 {α1 α2 α3 α4 α5 α6 ρ : Type} {r1 : Rp α1} {r2 : Rp α2} {r3 : Rp α3} {r4 : Rp α4} {r5 : Rp α5} {r6 : Rp α6} {rr : Rp ρ} {E : XK} {t1 t2 t3 t4 t5 t6 : TE} {m : α1 → α2 → α3 → α4 → α5 → α6 → Option (List ρ)} {m1 : Option (α1 × γ)} {m2 : γ → Option (α2 × γ)} {m3 : γ → Option (α3 × γ)} {m4 : γ → Option (α4 × γ)} {m5 : γ → Option (α5 × γ)} {m6 : γ → Option (α6 × γ)} (h1 : SM r1 t1 σ F (cs s) (m1) cs) (h2 : ∀ s, SM r2 t2 σ F (cs s) (m2 s) cs) (h3 : ∀ s, SM r3 t3 σ F (cs s) (m3 s) cs) (h4 : ∀ s, SM r4 t4 σ F (cs s) (m4 s) cs) (h5 : ∀ s, SM r5 t5 σ F (cs s) (m5 s) cs) (h6 : ∀ s, SM r6 t6 σ F (cs s) (m6 s) cs) : SF rr (tCall (Fsp6 r1 r2 r3 r4 r5 r6 rr m) [] E (tCons t1 (tCons t2 (tCons t3 (tCons t4 (tCons t5 (tCons t6 tNil))))))) σ F (cs s) (s6 (fun a1 a2 a3 a4 a5 a6 s => sK s (m a1 a2 a3 a4 a5 a6)) m1 m2 m3 m4 m5 m6) cs := fun d g q c F0 H0 f0 k0 Q hQ => by
  unfold s6 at q
  obtain ⟨a1, s1, q1, q⟩ := sC_some q
  obtain ⟨a2, s2, q2, q⟩ := sC_some q
  obtain ⟨a3, s3, q3, q⟩ := sC_some q
  obtain ⟨a4, s4, q4, q⟩ := sC_some q
  obtain ⟨a5, s5, q5, q⟩ := sC_some q
  obtain ⟨a6, s6, q6, q⟩ := sC_some q
  refine (h1) a1 s1 q1 c F0 H0 f0 k0 _ fun v1 F1 H1 e1 k1 x1 => ?_
  have f1 := f0.trans e1
  have g1 := e1
  refine (h2 s1) a2 s2 q2 c F1 H1 f1 k1 _ fun v2 F2 H2 e2 k2 x2 => ?_
  have f2 := f1.trans e2
  have g2 := g1.trans e2
  refine (h3 s2) a3 s3 q3 c F2 H2 f2 k2 _ fun v3 F3 H3 e3 k3 x3 => ?_
  have f3 := f2.trans e3
  have g3 := g2.trans e3
  refine (h4 s3) a4 s4 q4 c F3 H3 f3 k3 _ fun v4 F4 H4 e4 k4 x4 => ?_
  have f4 := f3.trans e4
  have g4 := g3.trans e4
  refine (h5 s4) a5 s5 q5 c F4 H4 f4 k4 _ fun v5 F5 H5 e5 k5 x5 => ?_
  have f5 := f4.trans e5
  have g5 := g4.trans e5
  refine (h6 s5) a6 s6 q6 c F5 H5 f5 k5 _ fun v6 F6 H6 e6 k6 x6 => ?_
  have f6 := f5.trans e6
  have g6 := g5.trans e6
  obtain ⟨qq, eg⟩ := sP_some q
  subst eg
  exact ⟨F6, v1, v2, v3, v4, v5, v6, a1, a2, a3, a4, a5, a6, d, rfl, k6.ex, r1.up (((((e2).trans e3).trans e4).trans e5).trans e6) x1, r2.up ((((e3).trans e4).trans e5).trans e6) x2, r3.up (((e4).trans e5).trans e6) x3, r4.up ((e5).trans e6) x4, r5.up (e6) x5, x6, qq, fun p F9 H9 k9 => hQ p F9 H9 (g6.trans k9.fz) (k6.call0n k9) (k6.dom p (Or.resolve_left (k9.old_new (p, cLst rr d) List.mem_cons_self) List.not_mem_nil))⟩
theorem sm_Mcall6 {α1 α2 α3 α4 α5 α6 ρ : Type} {r1 : Rp α1} {r2 : Rp α2} {r3 : Rp α3} {r4 : Rp α4} {r5 : Rp α5} {r6 : Rp α6} {rr : Rp ρ} {E : XK} {t1 t2 t3 t4 t5 t6 : TE} {cell : γ → Cp} {p : Addr} {i0 j0 : Nat} {m : γ → α1 → α2 → α3 → α4 → α5 → α6 → Option (ρ × γ)} {m1 : Option (α1 × γ)} {m2 : γ → Option (α2 × γ)} {m3 : γ → Option (α3 × γ)} {m4 : γ → Option (α4 × γ)} {m5 : γ → Option (α5 × γ)} {m6 : γ → Option (α6 × γ)} (hv : σ[i0]? = some (some (.ref p))) (hi : ∀ s, (cs s)[j0]? = some (p, cell s)) (hz : ∀ s s2, (cs s).set j0 (p, cell s2) = cs s2) (h1 : SM r1 t1 σ F (cs s) (m1) cs) (h2 : ∀ s, SM r2 t2 σ F (cs s) (m2 s) cs) (h3 : ∀ s, SM r3 t3 σ F (cs s) (m3 s) cs) (h4 : ∀ s, SM r4 t4 σ F (cs s) (m4 s) cs) (h5 : ∀ s, SM r5 t5 σ F (cs s) (m5 s) cs) (h6 : ∀ s, SM r6 t6 σ F (cs s) (m6 s) cs) : SM rr (tCall (MPsp6 cell r1 r2 r3 r4 r5 r6 rr m) [] E (tCons (tVar i0) (tCons t1 (tCons t2 (tCons t3 (tCons t4 (tCons t5 (tCons t6 tNil)))))))) σ F (cs s) (s6 (fun a1 a2 a3 a4 a5 a6 s => m s a1 a2 a3 a4 a5 a6) m1 m2 m3 m4 m5 m6) cs := fun d g q c F0 H0 f0 k0 Q hQ => by
  refine ⟨_, hv, ?_⟩
  unfold s6 at q
  obtain ⟨a1, s1, q1, q⟩ := sC_some q
  obtain ⟨a2, s2, q2, q⟩ := sC_some q
  obtain ⟨a3, s3, q3, q⟩ := sC_some q
  obtain ⟨a4, s4, q4, q⟩ := sC_some q
  obtain ⟨a5, s5, q5, q⟩ := sC_some q
  obtain ⟨a6, s6, q6, q⟩ := sC_some q
  refine (h1) a1 s1 q1 c F0 H0 f0 k0 _ fun v1 F1 H1 e1 k1 x1 => ?_
  have f1 := f0.trans e1
  have g1 := e1
  refine (h2 s1) a2 s2 q2 c F1 H1 f1 k1 _ fun v2 F2 H2 e2 k2 x2 => ?_
  have f2 := f1.trans e2
  have g2 := g1.trans e2
  refine (h3 s2) a3 s3 q3 c F2 H2 f2 k2 _ fun v3 F3 H3 e3 k3 x3 => ?_
  have f3 := f2.trans e3
  have g3 := g2.trans e3
  refine (h4 s3) a4 s4 q4 c F3 H3 f3 k3 _ fun v4 F4 H4 e4 k4 x4 => ?_
  have f4 := f3.trans e4
  have g4 := g3.trans e4
  refine (h5 s4) a5 s5 q5 c F4 H4 f4 k4 _ fun v5 F5 H5 e5 k5 x5 => ?_
  have f5 := f4.trans e5
  have g5 := g4.trans e5
  refine (h6 s5) a6 s6 q6 c F5 H5 f5 k5 _ fun v6 F6 H6 e6 k6 x6 => ?_
  have f6 := f5.trans e6
  have g6 := g5.trans e6
  exact ⟨F6, p, v1, v2, v3, v4, v5, v6, s6, a1, a2, a3, a4, a5, a6, d, g, rfl, k6.preAt j0 (hi s6), r1.up (((((e2).trans e3).trans e4).trans e5).trans e6) x1, r2.up ((((e3).trans e4).trans e5).trans e6) x2, r3.up (((e4).trans e5).trans e6) x3, r4.up ((e5).trans e6) x4, r5.up (e6) x5, x6, q, fun v F9 H9 k9 r9 => hQ v F9 H9 (g6.trans k9.fz) (by have z := k6.callAt j0 (hi s6) k9; rw [hz] at z; exact z) r9⟩
theorem sf_Mcall6 {α1 α2 α3 α4 α5 α6 ρ : Type} {r1 : Rp α1} {r2 : Rp α2} {r3 : Rp α3} {r4 : Rp α4} {r5 : Rp α5} {r6 : Rp α6} {rr : Rp ρ} {E : XK} {t1 t2 t3 t4 t5 t6 : TE} {cell : γ → Cp} {p : Addr} {i0 j0 : Nat} {m : γ → α1 → α2 → α3 → α4 → α5 → α6 → Option (List ρ × γ)} {m1 : Option (α1 × γ)} {m2 : γ → Option (α2 × γ)} {m3 : γ → Option (α3 × γ)} {m4 : γ → Option (α4 × γ)} {m5 : γ → Option (α5 × γ)} {m6 : γ → Option (α6 × γ)} (hv : σ[i0]? = some (some (.ref p))) (hi : ∀ s, (cs s)[j0]? = some (p, cell s)) (hz : ∀ s s2, (cs s).set j0 (p, cell s2) = cs s2) (h1 : SM r1 t1 σ F (cs s) (m1) cs) (h2 : ∀ s, SM r2 t2 σ F (cs s) (m2 s) cs) (h3 : ∀ s, SM r3 t3 σ F (cs s) (m3 s) cs) (h4 : ∀ s, SM r4 t4 σ F (cs s) (m4 s) cs) (h5 : ∀ s, SM r5 t5 σ F (cs s) (m5 s) cs) (h6 : ∀ s, SM r6 t6 σ F (cs s) (m6 s) cs) : SF rr (tCall (MFsp6 cell r1 r2 r3 r4 r5 r6 rr m) [] E (tCons (tVar i0) (tCons t1 (tCons t2 (tCons t3 (tCons t4 (tCons t5 (tCons t6 tNil)))))))) σ F (cs s) (s6 (fun a1 a2 a3 a4 a5 a6 s => m s a1 a2 a3 a4 a5 a6) m1 m2 m3 m4 m5 m6) cs := fun d g q c F0 H0 f0 k0 Q hQ => by
  refine ⟨_, hv, ?_⟩
  unfold s6 at q
  obtain ⟨a1, s1, q1, q⟩ := sC_some q
  obtain ⟨a2, s2, q2, q⟩ := sC_some q
  obtain ⟨a3, s3, q3, q⟩ := sC_some q
  obtain ⟨a4, s4, q4, q⟩ := sC_some q
  obtain ⟨a5, s5, q5, q⟩ := sC_some q
  obtain ⟨a6, s6, q6, q⟩ := sC_some q
  refine (h1) a1 s1 q1 c F0 H0 f0 k0 _ fun v1 F1 H1 e1 k1 x1 => ?_
  have f1 := f0.trans e1
  have g1 := e1
  refine (h2 s1) a2 s2 q2 c F1 H1 f1 k1 _ fun v2 F2 H2 e2 k2 x2 => ?_
  have f2 := f1.trans e2
  have g2 := g1.trans e2
  refine (h3 s2) a3 s3 q3 c F2 H2 f2 k2 _ fun v3 F3 H3 e3 k3 x3 => ?_
  have f3 := f2.trans e3
  have g3 := g2.trans e3
  refine (h4 s3) a4 s4 q4 c F3 H3 f3 k3 _ fun v4 F4 H4 e4 k4 x4 => ?_
  have f4 := f3.trans e4
  have g4 := g3.trans e4
  refine (h5 s4) a5 s5 q5 c F4 H4 f4 k4 _ fun v5 F5 H5 e5 k5 x5 => ?_
  have f5 := f4.trans e5
  have g5 := g4.trans e5
  refine (h6 s5) a6 s6 q6 c F5 H5 f5 k5 _ fun v6 F6 H6 e6 k6 x6 => ?_
  have f6 := f5.trans e6
  have g6 := g5.trans e6
  exact ⟨F6, p, v1, v2, v3, v4, v5, v6, s6, a1, a2, a3, a4, a5, a6, d, g, rfl, k6.preAt j0 (hi s6), r1.up (((((e2).trans e3).trans e4).trans e5).trans e6) x1, r2.up ((((e3).trans e4).trans e5).trans e6) x2, r3.up (((e4).trans e5).trans e6) x3, r4.up ((e5).trans e6) x4, r5.up (e6) x5, x6, q, fun l F9 H9 k9 => hQ l F9 H9 (g6.trans k9.fz) (by have z := k6.callAtN j0 (hi s6) k9; rw [hz] at z; exact z) (k6.dom l (k9.newOf))⟩
end
/-- the same with more cells -/
theorem EM.fr {α : Type} {ra : Rp α} {te : TE} {σ : L2.St} {F : Hp} {cs ex : Cs} {m : Option α} (h : EM ra te σ F cs m) : EM ra te σ F (cs ++ ex) m := fun d q c F1 H e k Q hQ => by
  have kk : Cov c F1 cs H := by
    have z := k.keepN cs.length
    rw [List.take_left] at z
    exact z
  exact h d q _ F1 H e kk.base Q fun v F2 H2 e2 k2 r2 => hQ v F2 H2 e2 (k.back k2 (Cov.old_ps k2)) r2
section
variable {σ : L2.St} {F : Hp} {cs : Cs}
theorem em_Tcall0 {α  ρ : Type} {ra : Rp α}  {rr : Rp ρ} {E : XK} {ta  : TE} {m : List α → Option (ρ × List α)} {ma : Option (List α)}  (h : EF ra ta σ F cs ma)  : EM rr (tCall (MPsp0 (fun z => cLst ra z)  rr m) [] E (tCons ta tNil)) σ F cs (ma.bind fun t => (m t ).bind fun r => some r.1) := fun d q c F0 H0 e0 k0 Q hQ => by
  obtain ⟨t, q0, q⟩ := bind_some q
  obtain ⟨r, qr, q⟩ := bind_some q
  cases q
  refine h t q0 c F0 H0 e0 k0 _ fun p G0 J0 g0 k0 n0 => ?_
  have f0 := e0.trans g0
  refine ⟨G0, p, t, r.1, r.2, rfl, k0.preAt cs.length (x := cLst ra t) (by simp), qr, fun v F9 H9 k9 r9 => hQ v F9 H9 (g0.trans k9.fz) ?_ r9⟩
  have z := (k0.callAt cs.length (x := cLst ra t) (by simp) k9).keepN cs.length
  rw [List.set_append_right _ _ (Nat.le_refl _), List.take_left] at z
  exact z
theorem em_Tcall1 {α α1 ρ : Type} {ra : Rp α} {r1 : Rp α1} {rr : Rp ρ} {E : XK} {ta t1 : TE} {m : List α → α1 → Option (ρ × List α)} {ma : Option (List α)} {m1 : Option α1} (h : EF ra ta σ F cs ma) (h1 : EM r1 t1 σ F cs m1) : EM rr (tCall (MPsp1 (fun z => cLst ra z) r1 rr m) [] E (tCons ta (tCons t1 tNil))) σ F cs (ma.bind fun t => m1.bind fun a1 => (m t a1).bind fun r => some r.1) := fun d q c F0 H0 e0 k0 Q hQ => by
  obtain ⟨t, q0, q⟩ := bind_some q
  obtain ⟨a1, q1, q⟩ := bind_some q
  obtain ⟨r, qr, q⟩ := bind_some q
  cases q
  refine h t q0 c F0 H0 e0 k0 _ fun p G0 J0 g0 k0 n0 => ?_
  have f0 := e0.trans g0
  refine h1.fr a1 q1 c G0 J0 f0 k0 _ fun v1 G1 J1 e1 k1 x1 => ?_
  have f1 := f0.trans e1
  have g1 := g0.trans e1
  refine ⟨G1, p, v1, t, a1, r.1, r.2, rfl, k1.preAt cs.length (x := cLst ra t) (by simp), x1, qr, fun v F9 H9 k9 r9 => hQ v F9 H9 (g1.trans k9.fz) ?_ r9⟩
  have z := (k1.callAt cs.length (x := cLst ra t) (by simp) k9).keepN cs.length
  rw [List.set_append_right _ _ (Nat.le_refl _), List.take_left] at z
  exact z
theorem em_Tcall2 {α α1 α2 ρ : Type} {ra : Rp α} {r1 : Rp α1} {r2 : Rp α2} {rr : Rp ρ} {E : XK} {ta t1 t2 : TE} {m : List α → α1 → α2 → Option (ρ × List α)} {ma : Option (List α)} {m1 : Option α1} {m2 : Option α2} (h : EF ra ta σ F cs ma) (h1 : EM r1 t1 σ F cs m1) (h2 : EM r2 t2 σ F cs m2) : EM rr (tCall (MPsp2 (fun z => cLst ra z) r1 r2 rr m) [] E (tCons ta (tCons t1 (tCons t2 tNil)))) σ F cs (ma.bind fun t => m1.bind fun a1 => m2.bind fun a2 => (m t a1 a2).bind fun r => some r.1) := fun d q c F0 H0 e0 k0 Q hQ => by
  obtain ⟨t, q0, q⟩ := bind_some q
  obtain ⟨a1, q1, q⟩ := bind_some q
  obtain ⟨a2, q2, q⟩ := bind_some q
  obtain ⟨r, qr, q⟩ := bind_some q
  cases q
  refine h t q0 c F0 H0 e0 k0 _ fun p G0 J0 g0 k0 n0 => ?_
  have f0 := e0.trans g0
  refine h1.fr a1 q1 c G0 J0 f0 k0 _ fun v1 G1 J1 e1 k1 x1 => ?_
  have f1 := f0.trans e1
  have g1 := g0.trans e1
  refine h2.fr a2 q2 c G1 J1 f1 k1 _ fun v2 G2 J2 e2 k2 x2 => ?_
  have f2 := f1.trans e2
  have g2 := g1.trans e2
  refine ⟨G2, p, v1, v2, t, a1, a2, r.1, r.2, rfl, k2.preAt cs.length (x := cLst ra t) (by simp), r1.up (e2) x1, x2, qr, fun v F9 H9 k9 r9 => hQ v F9 H9 (g2.trans k9.fz) ?_ r9⟩
  have z := (k2.callAt cs.length (x := cLst ra t) (by simp) k9).keepN cs.length
  rw [List.set_append_right _ _ (Nat.le_refl _), List.take_left] at z
  exact z
theorem em_Tcall3 {α α1 α2 α3 ρ : Type} {ra : Rp α} {r1 : Rp α1} {r2 : Rp α2} {r3 : Rp α3} {rr : Rp ρ} {E : XK} {ta t1 t2 t3 : TE} {m : List α → α1 → α2 → α3 → Option (ρ × List α)} {ma : Option (List α)} {m1 : Option α1} {m2 : Option α2} {m3 : Option α3} (h : EF ra ta σ F cs ma) (h1 : EM r1 t1 σ F cs m1) (h2 : EM r2 t2 σ F cs m2) (h3 : EM r3 t3 σ F cs m3) : EM rr (tCall (MPsp3 (fun z => cLst ra z) r1 r2 r3 rr m) [] E (tCons ta (tCons t1 (tCons t2 (tCons t3 tNil))))) σ F cs (ma.bind fun t => m1.bind fun a1 => m2.bind fun a2 => m3.bind fun a3 => (m t a1 a2 a3).bind fun r => some r.1) := fun d q c F0 H0 e0 k0 Q hQ => by
  obtain ⟨t, q0, q⟩ := bind_some q
  obtain ⟨a1, q1, q⟩ := bind_some q
  obtain ⟨a2, q2, q⟩ := bind_some q
  obtain ⟨a3, q3, q⟩ := bind_some q
  obtain ⟨r, qr, q⟩ := bind_some q
  cases q
  refine h t q0 c F0 H0 e0 k0 _ fun p G0 J0 g0 k0 n0 => ?_
  have f0 := e0.trans g0
  refine h1.fr a1 q1 c G0 J0 f0 k0 _ fun v1 G1 J1 e1 k1 x1 => ?_
  have f1 := f0.trans e1
  have g1 := g0.trans e1
  refine h2.fr a2 q2 c G1 J1 f1 k1 _ fun v2 G2 J2 e2 k2 x2 => ?_
  have f2 := f1.trans e2
  have g2 := g1.trans e2
  refine h3.fr a3 q3 c G2 J2 f2 k2 _ fun v3 G3 J3 e3 k3 x3 => ?_
  have f3 := f2.trans e3
  have g3 := g2.trans e3
  refine ⟨G3, p, v1, v2, v3, t, a1, a2, a3, r.1, r.2, rfl, k3.preAt cs.length (x := cLst ra t) (by simp), r1.up ((e2).trans e3) x1, r2.up (e3) x2, x3, qr, fun v F9 H9 k9 r9 => hQ v F9 H9 (g3.trans k9.fz) ?_ r9⟩
  have z := (k3.callAt cs.length (x := cLst ra t) (by simp) k9).keepN cs.length
  rw [List.set_append_right _ _ (Nat.le_refl _), List.take_left] at z
  exact z
end
end Mw

set_option maxHeartbeats 2000000
namespace Mw
open PySem L2
open Evl (Ex)
/-! ### S: composition -/
section
variable {α β γ ρ : Type} {ra : Rp α} {rb : Rp β} {rc : Rp ρ} {σ : L2.St} {F : Hp} {cs : γ → Cs} {s : γ} {ta tb te : TE} {t u : TT} {K : PySem.W.Frag}
theorem EM.sm {m : Option α} (h : EM ra te σ F (cs s) m) : SM ra te σ F (cs s) (sP m s) cs := fun d g q c F1 H e k Q hQ => by
  obtain ⟨q1, q2⟩ := sP_some q
  subst q2
  exact h d q1 c F1 H e k Q hQ
theorem EF.sf {m : Option (List α)} (h : EF ra te σ F (cs s) m) : SF ra te σ F (cs s) (sP m s) cs := fun d g q c F1 H e k Q hQ => by
  obtain ⟨q1, q2⟩ := sP_some q
  subst q2
  exact h d q1 c F1 H e k Q hQ
theorem ET.st {m : Option Bool} (h : ET t σ F (cs s) m) : ST t σ F (cs s) (sP m s) cs := fun d g q c F1 H e k Q hQ => by
  obtain ⟨q1, q2⟩ := sP_some q
  subst q2
  exact h d q1 c F1 H e k Q hQ
/-- a new list, frozen -/
theorem SF.sm {m : Option (List α × γ)} (h : SF ra te σ F (cs s) m cs) : SM (rLst ra) te σ F (cs s) m cs := fun d g q c F1 H e k Q hQ => by
  refine h d g q c F1 H e k Q fun p F2 H2 e2 k2 n2 => ?_
  obtain ⟨f1, _, o, f3, vs, rfl, f4⟩ := k2.cell (p, cLst ra d) (List.mem_append_right _ List.mem_cons_self)
  exact hQ (.ref p) _ H2 (e2.trans (Ex.new f1)) (k2.toHead.freeze f3 n2 |>.perm (by rw [List.append_nil])) ⟨p, vs, rfl, upd_same, Rs.up (Ex.new f1) f4⟩
theorem sm_op {rd : R2} {g : α → β → Option ρ} (hv : VO rd ra rb rc g) {ma : Option (α × γ)} {mb : γ → Option (β × γ)} (ha : SM ra ta σ F (cs s) ma cs) (hb : ∀ s, SM rb tb σ F (cs s) (mb s) cs) :
    SM rc (tOp rd ta tb) σ F (cs s) (s2 (fun a b s => sK s (g a b)) ma mb) cs := fun d g0 q c F0 H0 f0 k0 Q hQ => by
  unfold s2 at q
  obtain ⟨a, s1, q1, q⟩ := sC_some q
  obtain ⟨b, s2, q2, q⟩ := sC_some q
  obtain ⟨q3, eg⟩ := sP_some q
  subst eg
  refine ha a s1 q1 c F0 H0 f0 k0 _ fun x F2 H2 e2 k2 r2 => hb s1 b _ q2 c F2 H2 (f0.trans e2) k2 _ fun y F3 H3 e3 k3 r3 => hv c F3 _ H3 x y a b d k3 (ra.up e3 r2) r3 q3 Q fun z F4 H4 e4 k4 r4 => hQ z F4 H4 ((e2.trans e3).trans e4) k4 r4
theorem sm_un {rd : V → Hp → VK → Prop} {g : α → Option ρ} (hv : VU rd ra rc g) {ma : Option (α × γ)} (ha : SM ra ta σ F (cs s) ma cs) : SM rc (tUn rd ta) σ F (cs s) (s1 (fun a s => sK s (g a)) ma) cs := fun d g0 q c F0 H0 f0 k0 Q hQ => by
  unfold s1 at q
  obtain ⟨a, s1, q1, q⟩ := sC_some q
  obtain ⟨q3, eg⟩ := sP_some q
  subst eg
  refine ha a _ q1 c F0 H0 f0 k0 _ fun x F2 H2 e2 k2 r2 => hv c F2 _ H2 x a d k2 r2 q3 Q fun z F4 H4 e4 k4 r4 => hQ z F4 H4 (e2.trans e4) k4 r4
theorem sm_cb {rd : List V → Hp → VK → Prop} {g : α → Option ρ} (hv : VC rd ra rc g) {ma : Option (α × γ)} (ha : SM ra ta σ F (cs s) ma cs) : SM rc (tCB rd (tCons ta tNil)) σ F (cs s) (s1 (fun a s => sK s (g a)) ma) cs := fun d g0 q c F0 H0 f0 k0 Q hQ => by
  unfold s1 at q
  obtain ⟨a, s1, q1, q⟩ := sC_some q
  obtain ⟨q3, eg⟩ := sP_some q
  subst eg
  refine ha a _ q1 c F0 H0 f0 k0 _ fun x F2 H2 e2 k2 r2 => hv c F2 _ H2 x a d k2 r2 q3 Q fun z F4 H4 e4 k4 r4 => hQ z F4 H4 (e2.trans e4) k4 r4
theorem sm_cb2 {rd : List V → Hp → VK → Prop} {g : α → β → Option ρ} (hv : VC2 rd ra rb rc g) {ma : Option (α × γ)} {mb : γ → Option (β × γ)} (ha : SM ra ta σ F (cs s) ma cs) (hb : ∀ s, SM rb tb σ F (cs s) (mb s) cs) :
    SM rc (tCB rd (tCons ta (tCons tb tNil))) σ F (cs s) (s2 (fun a b s => sK s (g a b)) ma mb) cs := fun d g0 q c F0 H0 f0 k0 Q hQ => by
  unfold s2 at q
  obtain ⟨a, s1, q1, q⟩ := sC_some q
  obtain ⟨b, s2, q2, q⟩ := sC_some q
  obtain ⟨q3, eg⟩ := sP_some q
  subst eg
  refine ha a s1 q1 c F0 H0 f0 k0 _ fun x F2 H2 e2 k2 r2 => hb s1 b _ q2 c F2 H2 (f0.trans e2) k2 _ fun y F3 H3 e3 k3 r3 => hv c F3 _ H3 x y a b d k3 (ra.up e3 r2) r3 q3 Q fun z F4 H4 e4 k4 r4 => hQ z F4 H4 ((e2.trans e3).trans e4) k4 r4
theorem sm_ix {ma : Option (List α × γ)} {mi : γ → Option (Int × γ)} (ha : SM (rLst ra) ta σ F (cs s) ma cs) (hb : ∀ s, SM rInt tb σ F (cs s) (mi s) cs) :
    SM ra (tOp (rIxL K) ta tb) σ F (cs s) (s2 (fun a b s => sK s (ixG a b)) ma mi) cs := fun d g0 q c F0 H0 f0 k0 Q hQ => by
  unfold s2 at q
  obtain ⟨a, s1, q1, q⟩ := sC_some q
  obtain ⟨b, s2, q2, q⟩ := sC_some q
  obtain ⟨q3, eg⟩ := sP_some q
  subst eg
  refine ha a s1 q1 c F0 H0 f0 k0 _ fun x F2 H2 e2 k2 r2 => hb s1 b _ q2 c F2 H2 (f0.trans e2) k2 _ fun y F3 H3 e3 k3 r3 => ?_
  cases r3
  obtain ⟨p, vs, rfl, h1, h2⟩ := (rLst ra).up e3 r2
  obtain ⟨v, h3, h4⟩ := rs_at h2 q3
  exact ⟨p, vs, b, v, rfl, rfl, SqL.of (k3.ex _ _ h1), h3, hQ v F3 H3 (e2.trans e3) k3 h4⟩
def sAnd {γ : Type} (a : Option (Bool × γ)) (b : γ → Option (Bool × γ)) : Option (Bool × γ) := sC a fun x s => if x = true then b s else some (false, s)
def sOr {γ : Type} (a : Option (Bool × γ)) (b : γ → Option (Bool × γ)) : Option (Bool × γ) := sC a fun x s => if x = true then some (true, s) else b s
def sNot {γ : Type} (a : Option (Bool × γ)) : Option (Bool × γ) := sC a fun x s => some (!x, s)
def sIf {α γ : Type} (c : Option (Bool × γ)) (a b : γ → Option (α × γ)) : Option (α × γ) := sC c fun x s => if x = true then a s else b s
theorem st_test {m : Option (Bool × γ)} (h : SM rBool te σ F (cs s) m cs) : ST (tTest te) σ F (cs s) m cs := fun d g q c F1 H e k Q hQ => h d g q c F1 H e k _ fun v F2 H2 e2 k2 r2 => ⟨d, r2, hQ F2 H2 e2 k2⟩
theorem st_B {m : Option (Bool × γ)} (h : SM rBool te σ F (cs s) m cs) : ST (tB te) σ F (cs s) m cs := fun d g q c F1 H e k Q hQ => h d g q c F1 H e k _ fun v F2 H2 e2 k2 r2 => ⟨d, r2, hQ F2 H2 e2 k2⟩
theorem st_and {m : Option (Bool × γ)} {n : γ → Option (Bool × γ)} (h1 : ST t σ F (cs s) m cs) (h2 : ∀ s, ST u σ F (cs s) (n s) cs) : ST (tAnd t u) σ F (cs s) (sAnd m n) cs := fun d g q c F1 H e k Q hQ => by
  obtain ⟨a, s1, q1, q2⟩ := sC_some q
  refine h1 a s1 q1 c F1 H e k _ fun F2 H2 e2 k2 => ?_
  cases a with
  | true =>
    show u σ H2 Q
    exact h2 s1 d g q2 c F2 H2 (e.trans e2) k2 Q fun F3 H3 e3 k3 => hQ F3 H3 (e2.trans e3) k3
  | false =>
    cases q2
    show Q false H2
    exact hQ F2 H2 e2 k2
theorem st_or {m : Option (Bool × γ)} {n : γ → Option (Bool × γ)} (h1 : ST t σ F (cs s) m cs) (h2 : ∀ s, ST u σ F (cs s) (n s) cs) : ST (tOr t u) σ F (cs s) (sOr m n) cs := fun d g q c F1 H e k Q hQ => by
  obtain ⟨a, s1, q1, q2⟩ := sC_some q
  refine h1 a s1 q1 c F1 H e k _ fun F2 H2 e2 k2 => ?_
  cases a with
  | true =>
    cases q2
    show Q true H2
    exact hQ F2 H2 e2 k2
  | false =>
    show u σ H2 Q
    exact h2 s1 d g q2 c F2 H2 (e.trans e2) k2 Q fun F3 H3 e3 k3 => hQ F3 H3 (e2.trans e3) k3
theorem st_not {m : Option (Bool × γ)} (h1 : ST t σ F (cs s) m cs) : ST (tNot t) σ F (cs s) (sNot m) cs := fun d g q c F1 H e k Q hQ => by
  obtain ⟨a, s1, q1, q2⟩ := sC_some q
  cases q2
  exact h1 a _ q1 c F1 H e k _ fun F2 H2 e2 k2 => hQ F2 H2 e2 k2
theorem sm_andV {m : Option (Bool × γ)} {n : γ → Option (Bool × γ)} (h1 : SM rBool ta σ F (cs s) m cs) (h2 : ∀ s, SM rBool tb σ F (cs s) (n s) cs) : SM rBool (tAndV ta tb) σ F (cs s) (sAnd m n) cs := fun d g q c F1 H e k Q hQ => by
  obtain ⟨a, s1, q1, q2⟩ := sC_some q
  refine h1 a s1 q1 c F1 H e k _ fun v F2 H2 e2 k2 r2 => ⟨a, r2, ?_⟩
  cases a with
  | true =>
    show tb σ H2 Q
    exact h2 s1 d g q2 c F2 H2 (e.trans e2) k2 Q fun v F3 H3 e3 k3 r3 => hQ v F3 H3 (e2.trans e3) k3 r3
  | false =>
    cases q2
    show Q (.bl false) H2
    exact hQ _ F2 H2 e2 k2 rfl
theorem sm_orV {m : Option (Bool × γ)} {n : γ → Option (Bool × γ)} (h1 : SM rBool ta σ F (cs s) m cs) (h2 : ∀ s, SM rBool tb σ F (cs s) (n s) cs) : SM rBool (tOrV ta tb) σ F (cs s) (sOr m n) cs := fun d g q c F1 H e k Q hQ => by
  obtain ⟨a, s1, q1, q2⟩ := sC_some q
  refine h1 a s1 q1 c F1 H e k _ fun v F2 H2 e2 k2 r2 => ⟨a, r2, ?_⟩
  cases a with
  | true =>
    cases q2
    show Q (.bl true) H2
    exact hQ _ F2 H2 e2 k2 rfl
  | false =>
    show tb σ H2 Q
    exact h2 s1 d g q2 c F2 H2 (e.trans e2) k2 Q fun v F3 H3 e3 k3 r3 => hQ v F3 H3 (e2.trans e3) k3 r3
theorem sm_if {m : Option (Bool × γ)} {n1 n2 : γ → Option (α × γ)} (h : ST t σ F (cs s) m cs) (h1 : ∀ s, SM ra ta σ F (cs s) (n1 s) cs) (h2 : ∀ s, SM ra tb σ F (cs s) (n2 s) cs) : SM ra (tIf t ta tb) σ F (cs s) (sIf m n1 n2) cs := fun d g q c F1 H e k Q hQ => by
  obtain ⟨a, s1, q1, q2⟩ := sC_some q
  refine h a s1 q1 c F1 H e k _ fun F2 H2 e2 k2 => ?_
  cases a with
  | true =>
    show ta σ H2 Q
    exact h1 s1 d g q2 c F2 H2 (e.trans e2) k2 Q fun v F3 H3 e3 k3 r3 => hQ v F3 H3 (e2.trans e3) k3 r3
  | false =>
    show tb σ H2 Q
    exact h2 s1 d g q2 c F2 H2 (e.trans e2) k2 Q fun v F3 H3 e3 k3 r3 => hQ v F3 H3 (e2.trans e3) k3 r3
def sCons {α γ : Type} (a : Option (α × γ)) (l : γ → Option (List α × γ)) : Option (List α × γ) := sC a fun x s => sC (l s) fun r s => some (x :: r, s)
theorem sa_nil : SA ra tNil σ F (cs s) (some ([], s)) cs := fun d g q c F1 H e k Q hQ => by
  cases q
  exact hQ [] F1 H (Evl.Ex.refl _) k .nil
theorem sa_cons {ma : Option (α × γ)} {tr : TA} {l : γ → Option (List α × γ)} (h : SM ra ta σ F (cs s) ma cs) (hr : ∀ s, SA ra tr σ F (cs s) (l s) cs) : SA ra (tCons ta tr) σ F (cs s) (sCons ma l) cs := fun d g q c F1 H e k Q hQ => by
  obtain ⟨a, s1, q1, q⟩ := sC_some q
  obtain ⟨b, s2, q2, q⟩ := sC_some q
  cases q
  exact h a s1 q1 c F1 H e k _ fun v F2 H2 e2 k2 r2 => hr s1 b _ q2 c F2 H2 (e.trans e2) k2 _ fun vs F3 H3 e3 k3 r3 => hQ (v :: vs) F3 H3 (e2.trans e3) k3 (.cons (ra.up e3 r2) r3)
theorem EA.sa {ta : TA} {m : Option (List α)} (h : EA ra ta σ F (cs s) m) : SA ra ta σ F (cs s) (sP m s) cs := fun d g q c F1 H e k Q hQ => by
  obtain ⟨q1, q2⟩ := sP_some q
  subst q2
  exact h d q1 c F1 H e k Q hQ
theorem sf_lst {ta : TA} {l : Option (List α × γ)} (h : SA ra ta σ F (cs s) l cs) : SF ra (tLst ta) σ F (cs s) (s1 (fun a s => sK s (szG a)) l) cs := fun d g q c F1 H e k Q hQ => by
  unfold s1 at q
  obtain ⟨a, s1, q1, q⟩ := sC_some q
  obtain ⟨q3, eg⟩ := sP_some q
  subst eg
  obtain ⟨rfl, hl⟩ := szG_some q3
  refine h _ _ q1 c F1 H e k _ fun vs F2 H2 e2 k2 r2 => ⟨sz_ok (by rw [r2.length]; exact hl), fun p hp => hQ p F2 _ e2 (k2.own hp ⟨vs, rfl, r2⟩) (k2.dom p hp)⟩
theorem sm_tup {ta : TA} {l : Option (List α × γ)} (h : SA ra ta σ F (cs s) l cs) : SM (rTup K ra) (tTup ta) σ F (cs s) (s1 (fun a s => sK s (szG a)) l) cs := fun d g q c F1 H e k Q hQ => by
  unfold s1 at q
  obtain ⟨a, s1, q1, q⟩ := sC_some q
  obtain ⟨q3, eg⟩ := sP_some q
  subst eg
  obtain ⟨rfl, hl⟩ := szG_some q3
  refine h _ _ q1 c F1 H e k _ fun vs F2 H2 e2 k2 r2 => ⟨sz_ok (by rw [r2.length]; exact hl), fun p hp => hQ (.ref p) _ _ (e2.trans (Ex.new (k2.fnone hp))) (k2.lay hp) ⟨p, vs, rfl, upd_same, Rs.up (Ex.new (k2.fnone hp)) r2⟩⟩
/-- tuple([..]) of a new list -/
theorem sm_tuple {ma : Option (List α × γ)} (ha : SM (rLst ra) ta σ F (cs s) ma cs) : SM (rTup K ra) (tCB (fun xs H Q => ∃ p ys, xs = [.ref p] ∧ ((SqL K H p ys ∧ ∀ l, H l = none → Q (.ref l) (upd H l (.tup ys))) ∨ (SqT K H p ys ∧ Q (.ref p) H))) (tCons ta tNil)) σ F (cs s) ma cs := fun d g q c F1 H e k Q hQ => by
  refine ha d g q c F1 H e k _ fun x F2 H2 e2 k2 r2 => ?_
  obtain ⟨p, vs, rfl, h1, h2⟩ := r2
  exact ⟨p, vs, rfl, .inl ⟨SqL.of (k2.ex _ _ h1), fun l hl => hQ (.ref l) _ _ (e2.trans (Ex.new (k2.fnone hl))) (k2.lay hl) ⟨l, vs, rfl, upd_same, Rs.up (Ex.new (k2.fnone hl)) h2⟩⟩⟩
end

/-! ### what is walked -/
structure Goes {α : Type} (J : It) (F : Hp) (ra : Rp α) (ds : List α) : Prop where
  go : ∀ i d, ds[i]? = some d → ∀ c F' cs H, Ex F F' → Cov c F' cs H → J.go i H ∧ ∀ x H', J.yld i H x H' → ∃ F'', Ex F' F'' ∧ (∀ c cs, Cov c F' cs H → Cov c F'' cs H') ∧ ra.r F'' x d
  stop : ∀ c F' cs H, Ex F F' → Cov c F' cs H → J.stop ds.length H
def EI {α : Type} (ra : Rp α) (wi : TI) (σ : L2.St) (F : Hp) (cs : Cs) (m : Option (List α)) : Prop := ∀ ds, m = some ds → ∀ c F1 H, Ex F F1 → Cov c F1 cs H → ∀ R : It → Hp → Prop, (∀ J F2 H2, Ex F1 F2 → Cov c F2 cs H2 → Goes J F2 ra ds → R J H2) → wi σ H R
section
variable {α : Type} {ra : Rp α} {σ : L2.St} {F H : Hp} {cs : Cs} {K : PySem.W.Frag} {te : TE}
theorem goes_list' {a : Addr} {vs : List V} {ds : List α} (h : SqL K F a vs) (r : Rs ra F vs ds) : Goes (Itl K a) F ra ds where
  go := fun i d hd c F' cs H e k => by
    obtain ⟨v, h1, h2⟩ := rs_get r hd
    refine ⟨⟨vs, v, Evl.ex_l (e.trans k.ex) h, h1⟩, fun x H' y => ?_⟩
    obtain ⟨y1, y2⟩ := y
    subst y1
    have z := y2 vs (Evl.ex_l (e.trans k.ex) h)
    rw [h1] at z
    cases z
    exact ⟨F', Evl.Ex.refl _, fun _ _ k => k, ra.up e h2⟩
  stop := fun c F' cs H e k => ⟨vs, Evl.ex_l (e.trans k.ex) h, by rw [r.length]; exact Nat.le_refl _⟩
theorem goes_tup {a : Addr} {vs : List V} {ds : List α} (h : SqT K F a vs) (r : Rs ra F vs ds) : Goes (Itt K a) F ra ds where
  go := fun i d hd c F' cs H e k => by
    obtain ⟨v, h1, h2⟩ := rs_get r hd
    refine ⟨⟨vs, v, Evl.ex_t (e.trans k.ex) h, h1⟩, fun x H' y => ?_⟩
    obtain ⟨y1, y2⟩ := y
    subst y1
    have z := y2 vs (Evl.ex_t (e.trans k.ex) h)
    rw [h1] at z
    cases z
    exact ⟨F', Evl.Ex.refl _, fun _ _ k => k, ra.up e h2⟩
  stop := fun c F' cs H e k => ⟨vs, Evl.ex_t (e.trans k.ex) h, by rw [r.length]; exact Nat.le_refl _⟩
/-- lo, lo + 1, .. -/
def rngL (lo hi : Int) : List Int := (List.range (hi - lo).toNat).map fun (i : Nat) => lo + (i : Int)
theorem rngL_get {lo hi : Int} {i : Nat} {d : Int} (h : (rngL lo hi)[i]? = some d) : i < (hi - lo).toNat ∧ d = lo + (i : Int) := by
  unfold rngL at h
  rw [List.getElem?_map] at h
  by_cases q : i < (hi - lo).toNat
  · rw [List.getElem?_range q] at h
    cases h
    exact ⟨q, rfl⟩
  · rw [List.getElem?_eq_none (by rw [List.length_range]; omega)] at h
    cases h
theorem rngL_len (lo hi : Int) : (rngL lo hi).length = (hi - lo).toNat := by
  unfold rngL
  rw [List.length_map, List.length_range]
theorem goes_rng {lo hi : Int} : Goes (Itr lo (hi - lo).toNat) F rInt (rngL lo hi) where
  go := fun i d hd c F' cs H e k => by
    obtain ⟨h1, h2⟩ := rngL_get hd
    refine ⟨h1, fun x H' y => ?_⟩
    obtain ⟨y1, y2⟩ := y
    subst y1 y2 h2
    exact ⟨F', Evl.Ex.refl _, fun _ _ k => k, rfl⟩
  stop := fun c F' cs H e k => by
    show (hi - lo).toNat ≤ _
    rw [rngL_len]
    exact Nat.le_refl _
theorem ei_list {m : Option (List α)} (h : EM (rLst ra) te σ F cs m) : EI ra (iList K te) σ F cs m := fun ds q c F1 H e k R hR => h ds q c F1 H e k _ fun v F2 H2 e2 k2 r2 => by
  obtain ⟨a, vs, rfl, h1, h2⟩ := r2
  exact ⟨a, rfl, ⟨vs, SqL.of (k2.ex _ _ h1)⟩, hR _ F2 H2 e2 k2 (goes_list' (SqL.of h1) h2)⟩
theorem ei_listW {m : Option (List α)} (h : EM (rLsW K ra) te σ F cs m) : EI ra (iList K te) σ F cs m := fun ds q c F1 H e k R hR => h ds q c F1 H e k _ fun v F2 H2 e2 k2 r2 => by
  obtain ⟨a, vs, rfl, h1, h2⟩ := r2
  exact ⟨a, rfl, ⟨vs, Evl.ex_l k2.ex h1⟩, hR _ F2 H2 e2 k2 (goes_list' h1 h2)⟩
theorem ei_tup {m : Option (List α)} (h : EM (rTup K ra) te σ F cs m) : EI ra (iTup K te) σ F cs m := fun ds q c F1 H e k R hR => h ds q c F1 H e k _ fun v F2 H2 e2 k2 r2 => by
  obtain ⟨a, vs, rfl, h1, h2⟩ := r2
  exact ⟨a, rfl, ⟨vs, ext_ k2.ex h1⟩, hR _ F2 H2 e2 k2 (goes_tup (SqT.of h1) h2)⟩
def rngG (hi : Int) : Option (List Int) := if -(2 ^ 62) ≤ hi ∧ hi < 2 ^ 62 then some (rngL 0 hi) else none
def rngG2 (lo hi : Int) : Option (List Int) := if -(2 ^ 62) ≤ lo ∧ lo < 2 ^ 62 ∧ -(2 ^ 62) ≤ hi ∧ hi < 2 ^ 62 then some (rngL lo hi) else none
theorem ei_rng1 {m : Option Int} (h : EM rInt te σ F cs m) : EI rInt (iRng1 (tCons te tNil)) σ F cs (o1 rngG m) := fun ds q c F1 H e k R hR => by
  obtain ⟨j, q1, q2⟩ := o1_some q
  unfold rngG at q2
  split at q2
  · rename_i g
    cases q2
    refine h j q1 c F1 H e k _ fun v F2 H2 e2 k2 r2 => ?_
    cases r2
    have z := hR (Itr 0 (j - 0).toNat) F2 H2 e2 k2 goes_rng
    rw [Int.sub_zero] at z
    exact ⟨j, rfl, g.1, g.2, z⟩
  · cases q2
theorem ei_rng2 {tb : TE} {m n : Option Int} (h : EM rInt te σ F cs m) (h' : EM rInt tb σ F cs n) : EI rInt (iRng2 (tCons te (tCons tb tNil))) σ F cs (o2 rngG2 m n) := fun ds q c F1 H e k R hR => by
  obtain ⟨i, j, q1, q2, q3⟩ := o2_some q
  unfold rngG2 at q3
  split at q3
  · rename_i g
    cases q3
    refine h i q1 c F1 H e k _ fun v F2 H2 e2 k2 r2 => h' j q2 c F2 H2 (e.trans e2) k2 _ fun w F3 H3 e3 k3 r3 => ?_
    cases r2
    cases r3
    exact ⟨i, j, rfl, g, hR _ F3 H3 (e2.trans e3) k3 goes_rng⟩
  · cases q3
end

/-! ### comprehensions -/
def oMap {α β : Type} (t : α → Option Bool) (f : α → Option β) : List α → Option (List β)
  | [] => some []
  | a :: l => (t a).bind fun b => if b = true then (f a).bind fun x => (oMap t f l).bind fun r => some (x :: r) else oMap t f l
def yes {α : Type} : α → Option Bool := fun _ => some true
def oLc {α β : Type} (t : α → Option Bool) (f : α → Option β) (l : List α) : Option (List β) := if l.length ≤ 16000000 then oMap t f l else none
def sMap {α β γ : Type} (f : α → γ → Option (β × γ)) : List α → γ → Option (List β × γ)
  | [], s => some ([], s)
  | a :: l, s => sC (f a s) fun x s => sC (sMap f l s) fun r s => some (x :: r, s)
def sLc {α β γ : Type} (f : α → γ → Option (β × γ)) (l : List α) (s : γ) : Option (List β × γ) := if l.length ≤ 16000000 then sMap f l s else none
/-- a target takes a value: the slots behind it, and what is known there -/
def GT {α : Type} (g : TG) (ra : Rp α) (K : PySem.W.Frag) (σ : L2.St) (S : α → Hp → L2.St → Prop) : Prop := ∀ c F cs H v d, Cov c F cs H → ra.r F v d → ∀ Q : L2.St → Hp → Prop, (∀ σ2, S d F σ2 → Q σ2 H) → g v σ H Q
section
variable {α β γ : Type} {ra : Rp α} {rb : Rp β} {σ : L2.St} {F H : Hp} {cs : Cs} {K : PySem.W.Frag} {te : TE} {wi : TI} {g : TG} {tt : TT} {vs : List Nat}
theorem gt_name {j : Nat} {σ1 : V → L2.St} (h : ∀ v, σ.set j (some v) = σ1 v) : GT (gName j) ra K σ (fun d F σ2 => ∃ v, σ2 = σ1 v ∧ ra.r F v d) := fun c F cs H v d k r Q hQ => hQ _ ⟨v, h v, r⟩
theorem gt_pair {α1 α2 : Type} {r1 : Rp α1} {r2 : Rp α2} {i j : Nat} {σ1 : V → V → L2.St} (h : ∀ v w, (σ.set i (some v)).set j (some w) = σ1 v w) :
    GT (gTup K 2 (gCons (gName i) (gCons (gName j) gNil))) (rP2 K r1 r2) K σ (fun d F σ2 => ∃ v w, σ2 = σ1 v w ∧ r1.r F v d.1 ∧ r2.r F w d.2) := fun c F cs H v d k r Q hQ => by
  obtain ⟨a, v1, v2, rfl, h1, h2, h3⟩ := r
  exact ⟨a, [v1, v2], rfl, ext_ k.ex h1, rfl, v1, [v2], rfl, v2, [], rfl, rfl, hQ _ ⟨v1, v2, h v1 v2, h2, h3⟩⟩
theorem gt_triple {α1 α2 α3 : Type} {r1 : Rp α1} {r2 : Rp α2} {r3 : Rp α3} {i j l : Nat} {σ1 : V → V → V → L2.St} (h : ∀ v w x, ((σ.set i (some v)).set j (some w)).set l (some x) = σ1 v w x) :
    GT (gTup K 3 (gCons (gName i) (gCons (gName j) (gCons (gName l) gNil)))) (rP3 K r1 r2 r3) K σ (fun d F σ2 => ∃ v w x, σ2 = σ1 v w x ∧ r1.r F v d.1 ∧ r2.r F w d.2.1 ∧ r3.r F x d.2.2) := fun c F cs H v d k r Q hQ => by
  obtain ⟨a, v1, v2, v3, rfl, h1, h2, h3, h4⟩ := r
  exact ⟨a, [v1, v2, v3], rfl, ext_ k.ex h1, rfl, v1, [v2, v3], rfl, v2, [v3], rfl, v3, [], rfl, rfl, hQ _ ⟨v1, v2, v3, h v1 v2 v3, h2, h3, h4⟩⟩
theorem oMap_drop {t : α → Option Bool} {f : α → Option β} {ds : List α} {i : Nat} {d : α} (h : ds[i]? = some d) : oMap t f (ds.drop i) = (t d).bind fun b => if b = true then (f d).bind fun x => (oMap t f (ds.drop (i + 1))).bind fun r => some (x :: r) else oMap t f (ds.drop (i + 1)) := by
  obtain ⟨h1, h2⟩ := List.getElem?_eq_some_iff.mp h
  rw [List.drop_eq_getElem_cons h1, h2] <;> rfl
theorem oMap_len {t : α → Option Bool} {f : α → Option β} : ∀ {l : List α} {r : List β}, oMap t f l = some r → r.length ≤ l.length
  | [], _, h => by cases h; exact Nat.le_refl _
  | a :: l, r, h => by
    obtain ⟨b, h1, h⟩ := bind_some h
    cases b with
    | true =>
      obtain ⟨x, h2, h⟩ := bind_some h
      obtain ⟨q, h3, h⟩ := bind_some h
      cases h
      have z := oMap_len h3
      simp only [List.length_cons]
      omega
    | false =>
      have z := oMap_len (show oMap t f l = some r from h)
      simp only [List.length_cons]
      omega
theorem sz_lt {n : Nat} (h : n < 16000001) : n < sizeLine := by
  rw [sizeLine_eq]; omega
/-- [e for target in .. if ..] -/
theorem ef_lc {m : Option (List α)} {t : α → Option Bool} {f : α → Option β} {S : α → Hp → L2.St → Prop} (hw : EI ra wi σ F cs m) (hg : GT g ra K (wipe σ vs) S) (hs : ∀ d F σ2, S d F σ2 → wipe σ2 vs = wipe σ vs)
    (ht : ∀ d F1 σ2, Ex F F1 → S d F1 σ2 → ET tt σ2 F1 cs (t d)) (he : ∀ d F1 σ2, Ex F F1 → S d F1 σ2 → EM rb te σ2 F1 cs (f d)) : EF rb (tLc wi g tt te vs) σ F cs (o1 (oLc t f) m) := fun r q c F1 H1 e1 k1 Q hQ => by
  obtain ⟨ds, q1, q2⟩ := o1_some q
  unfold oLc at q2
  split at q2
  case isFalse => cases q2
  rename_i hlen
  refine hw ds q1 c F1 H1 e1 k1 _ fun J F2 H2 e2 k2 G => fun D hD => ?_
  have hD0 := k2.dom D hD
  refine ⟨fun i m H => m = ds.length - i ∧ i ≤ ds.length ∧ ∃ F' acc rest, Ex F2 F' ∧ oMap t f (ds.drop i) = some rest ∧ r = acc ++ rest ∧ acc.length ≤ i ∧ Cov c F' (cs ++ [(D, cLst rb acc)]) H,
    ⟨ds.length, by simp, Nat.zero_le _, F2, [], r, Evl.Ex.refl _, q2, rfl, Nat.le_refl _, k2.own hD ⟨[], rfl, .nil⟩⟩, ?_⟩
  rintro i m H ⟨rfl, hi, F', acc, rest, e3, hr, eq, la, k3⟩
  by_cases hlt : i < ds.length
  · have hd : ds[i]? = some ds[i] := by simp [hlt]
    obtain ⟨g1, g2⟩ := G.go i _ hd c F' _ H e3 k3
    refine .inr ⟨g1, fun H => ∃ F' acc rest, Ex F2 F' ∧ oMap t f (ds.drop (i + 1)) = some rest ∧ r = acc ++ rest ∧ acc.length ≤ i + 1 ∧ Cov c F' (cs ++ [(D, cLst rb acc)]) H, fun H' ⟨F', acc, rest, z⟩ => ⟨ds.length - (i + 1), by omega, rfl, hlt, F', acc, rest, z⟩, fun x H' y => ?_⟩
    obtain ⟨F4, e4, c4, r4⟩ := g2 x H' y
    have k4 := c4 c _ k3
    rw [oMap_drop hd] at hr
    obtain ⟨b, h1, hr⟩ := bind_some hr
    refine hg c F4 _ H' x _ k4 r4 _ fun σ2 s2 => ⟨hs _ _ _ s2, ?_⟩
    -- the test, the cells without D, rebased
    have kk : Cov c F4 cs H' := by
      have z := k4.keepN cs.length
      rw [List.take_left] at z
      exact z
    have e04 : Ex F F4 := ((e1.trans e2).trans e3).trans e4
    refine ht _ F4 σ2 e04 s2 b h1 _ F4 H' (Evl.Ex.refl _) kk.base _ fun F5 H5 e5 k5 => ?_
    have k5' : Cov c F5 (cs ++ [(D, cLst rb acc)]) H5 := k4.back k5 (Cov.old_ps k5)
    cases b with
    | true =>
      obtain ⟨z, h2, hr⟩ := bind_some hr
      obtain ⟨rr, h3, hr⟩ := bind_some hr
      cases hr
      have kk5 : Cov c F5 cs H5 := by
        have z := k5'.keepN cs.length
        rw [List.take_left] at z
        exact z
      show te σ2 H5 _
      refine he _ F4 σ2 e04 s2 z h2 _ F5 H5 e5 kk5.base _ fun v F6 H6 e6 k6 r6 => ?_
      have k6' : Cov c F6 (cs ++ [(D, cLst rb acc)]) H6 := k5'.back k6 (Cov.old_ps k6)
      obtain ⟨f1, _, o, f3, ws, rfl, f4⟩ := k6'.cell (D, cLst rb acc) (List.mem_append_right _ List.mem_cons_self)
      refine ⟨ws, f3, sz_lt (by rw [f4.length]; omega), F6, acc ++ [z], rr, ((e3.trans e4).trans e5).trans e6, h3, by rw [eq]; simp, by simp; omega, ?_⟩
      have k7 := k6'.set cs.length (p := D) (x := cLst rb acc) (x' := cLst rb (acc ++ [z])) (o := .lst (ws ++ [v])) (by simp) ⟨ws ++ [v], rfl, f4.snoc r6⟩
      rw [List.set_append_right _ _ (Nat.le_refl _), Nat.sub_self] at k7
      exact k7
    | false =>
      exact ⟨F5, acc, rest, (e3.trans e4).trans e5, hr, eq, by omega, k5'⟩
  · have e : i = ds.length := by omega
    subst e
    rw [List.drop_length] at hr
    cases hr
    rw [List.append_nil] at eq
    subst eq
    exact .inl ⟨G.stop c F' _ H e3 k3, hQ D F' H (e2.trans e3) k3 hD0⟩
theorem et_yes {σ : L2.St} {d : α} : ET tYes σ F cs (yes d) := fun b q c F1 H e k Q hQ => by cases q; exact hQ F1 H (Evl.Ex.refl _) k
theorem sMap_drop {f : α → γ → Option (β × γ)} {ds : List α} {i : Nat} {d : α} {s : γ} (h : ds[i]? = some d) : sMap f (ds.drop i) s = sC (f d s) fun x s => sC (sMap f (ds.drop (i + 1)) s) fun r s => some (x :: r, s) := by
  obtain ⟨h1, h2⟩ := List.getElem?_eq_some_iff.mp h
  rw [List.drop_eq_getElem_cons h1, h2] <;> rfl
/-- the same, each item changes the state -/
theorem sf_lc {cs : γ → Cs} {s : γ} {m : Option (List α)} {f : α → γ → Option (β × γ)} {S : α → Hp → L2.St → Prop} (hw : EI ra wi σ F (cs s) m) (hg : GT g ra K (wipe σ vs) S) (hs : ∀ d F σ2, S d F σ2 → wipe σ2 vs = wipe σ vs)
    (he : ∀ d F1 σ2 s, Ex F F1 → S d F1 σ2 → SM rb te σ2 F1 (cs s) (f d s) cs) (hps : ∀ s s2, (cs s).map (·.1) = (cs s2).map (·.1)) : SF rb (tLc wi g tYes te vs) σ F (cs s) (m.bind fun l => sLc f l s) cs := fun r sE q c F1 H1 e1 k1 Q hQ => by
  obtain ⟨ds, q1, q2⟩ := bind_some q
  unfold sLc at q2
  split at q2
  case isFalse => cases q2
  rename_i hlen
  refine hw ds q1 c F1 H1 e1 k1 _ fun J F2 H2 e2 k2 G => fun D hD => ?_
  have hD0 := k2.dom D hD
  refine ⟨fun i m H => m = ds.length - i ∧ i ≤ ds.length ∧ ∃ F' acc rest s', Ex F2 F' ∧ sMap f (ds.drop i) s' = some (rest, sE) ∧ r = acc ++ rest ∧ acc.length ≤ i ∧ Cov c F' (cs s' ++ [(D, cLst rb acc)]) H,
    ⟨ds.length, by simp, Nat.zero_le _, F2, [], r, s, Evl.Ex.refl _, q2, rfl, Nat.le_refl _, k2.own hD ⟨[], rfl, .nil⟩⟩, ?_⟩
  rintro i m H ⟨rfl, hi, F', acc, rest, s', e3, hr, eq, la, k3⟩
  by_cases hlt : i < ds.length
  · have hd : ds[i]? = some ds[i] := by simp [hlt]
    obtain ⟨g1, g2⟩ := G.go i _ hd c F' _ H e3 k3
    refine .inr ⟨g1, fun H => ∃ F' acc rest s', Ex F2 F' ∧ sMap f (ds.drop (i + 1)) s' = some (rest, sE) ∧ r = acc ++ rest ∧ acc.length ≤ i + 1 ∧ Cov c F' (cs s' ++ [(D, cLst rb acc)]) H, fun H' ⟨F', acc, rest, s', z⟩ => ⟨ds.length - (i + 1), by omega, rfl, hlt, F', acc, rest, s', z⟩, fun x H' y => ?_⟩
    obtain ⟨F4, e4, c4, r4⟩ := g2 x H' y
    have k4 := c4 c _ k3
    rw [sMap_drop hd] at hr
    obtain ⟨z, s3, h2, hr⟩ := sC_some hr
    obtain ⟨rr, s4, h3, hr⟩ := sC_some hr
    cases hr
    refine hg c F4 _ H' x _ k4 r4 _ fun σ2 s2 => ⟨hs _ _ _ s2, ?_⟩
    have kk : Cov c F4 (cs s') H' := by
      have z := k4.keepN (cs s').length
      rw [List.take_left] at z
      exact z
    have e04 : Ex F F4 := ((e1.trans e2).trans e3).trans e4
    show te σ2 H' _
    refine he _ F4 σ2 s' e04 s2 z s3 h2 _ F4 H' (Evl.Ex.refl _) kk.base _ fun v F6 H6 e6 k6 r6 => ?_
    have k6' : Cov c F6 (cs s3 ++ [(D, cLst rb acc)]) H6 := k4.back k6 (Cov.old_ps k6)
    obtain ⟨f1, _, o, f3, ws, rfl, f4⟩ := k6'.cell (D, cLst rb acc) (List.mem_append_right _ List.mem_cons_self)
    refine ⟨ws, f3, sz_lt (by rw [f4.length]; omega), F6, acc ++ [z], rr, s3, (e3.trans e4).trans e6, h3, by rw [eq]; simp, by simp; omega, ?_⟩
    have k7 := k6'.set (cs s3).length (p := D) (x := cLst rb acc) (x' := cLst rb (acc ++ [z])) (o := .lst (ws ++ [v])) (by simp) ⟨ws ++ [v], rfl, f4.snoc r6⟩
    rw [List.set_append_right _ _ (Nat.le_refl _), Nat.sub_self] at k7
    exact k7
  · have e : i = ds.length := by omega
    subst e
    rw [List.drop_length] at hr
    cases hr
    rw [List.append_nil] at eq
    subst eq
    exact .inl ⟨G.stop c F' _ H e3 k3, hQ D F' H (e2.trans e3) k3 hD0⟩
end
end Mw

set_option maxHeartbeats 2000000
namespace Mw
open PySem L2
open Evl (Ex)
/-! ### loops, as data -/
def oFold {α γ : Type} (f : α → γ → Option γ) : List α → γ → Option γ
  | [], g => some g
  | a :: l, g => (f a g).bind (oFold f l)
/-- how a turn ends -/
inductive Lp (γ ρ : Type) where
  | go (g : γ)
  | brk (g : γ)
  | ret (r : ρ)
/-- how a loop ends -/
inductive Out (γ ρ : Type) where
  | nx (g : γ)
  | ret (r : ρ)
def oLoop {α γ ρ : Type} (f : α → γ → Option (Lp γ ρ)) : List α → γ → Option (Out γ ρ)
  | [], g => some (.nx g)
  | a :: l, g => (f a g).bind fun o => match o with
    | .go g' => oLoop f l g'
    | .brk g' => some (.nx g')
    | .ret r => some (.ret r)
def oWhile {γ : Type} (t : γ → Option Bool) (f : γ → Option γ) : Nat → γ → Option γ
  | 0, _ => none
  | n + 1, g => (t g).bind fun b => if b = true then (f g).bind (oWhile t f n) else some g
def oWhileL {γ ρ : Type} (t : γ → Option Bool) (f : γ → Option (Lp γ ρ)) : Nat → γ → Option (Out γ ρ)
  | 0, _ => none
  | n + 1, g => (t g).bind fun b => if b = true then (f g).bind fun o => match o with
    | .go g' => oWhileL t f n g'
    | .brk g' => some (.nx g')
    | .ret r => some (.ret r)
    else some (.nx g)
/-! ### statements -/
section
variable {α β γ ρ : Type} {ra : Rp α} {rb : Rp β} {σ : L2.St} {F H : Hp} {cs : Cs} {K : PySem.W.Frag} {te ta tb : TE} {t : TT} {tu tw tz : TS} {D : Ends} {c : Act} {d : α} {m : Option α}
theorem sq {t1 t2 : TS} (h : t1 { D with nx := t2 D } σ H) : tSeq t1 t2 D σ H := h
theorem a_set {i : Nat} (h : EM ra te σ F cs m) (hm : m = some d) (k : Cov c F cs H) (n : ∀ v F2 H2, Ex F F2 → Cov c F2 cs H2 → ra.r F2 v d → D.nx (σ.set i (some v)) H2) : tAsg te (gName i) D σ H := h d hm c F H (Evl.Ex.refl _) k _ fun v F2 H2 e2 k2 r2 => n v F2 H2 e2 k2 r2
theorem q_set {i : Nat} (h : EM ra te σ F cs m) (hm : m = some d) (k : Cov c F cs H) (n : ∀ v F2 H2, Ex F F2 → Cov c F2 cs H2 → ra.r F2 v d → tz D (σ.set i (some v)) H2) : tSeq (tAsg te (gName i)) tz D σ H := a_set (D := { D with nx := tz D }) h hm k n
theorem a_setF {i : Nat} {ds : List α} {m : Option (List α)} (h : EF ra te σ F cs m) (hm : m = some ds) (k : Cov c F cs H) (n : ∀ p F2 H2, Ex F F2 → Cov c F2 (cs ++ [(p, cLst ra ds)]) H2 → c.H0 p = none → D.nx (σ.set i (some (.ref p))) H2) : tAsg te (gName i) D σ H := h ds hm c F H (Evl.Ex.refl _) k _ fun v F2 H2 e2 k2 r2 => n v F2 H2 e2 k2 r2
theorem q_setF {i : Nat} {ds : List α} {m : Option (List α)} (h : EF ra te σ F cs m) (hm : m = some ds) (k : Cov c F cs H) (n : ∀ p F2 H2, Ex F F2 → Cov c F2 (cs ++ [(p, cLst ra ds)]) H2 → c.H0 p = none → tz D (σ.set i (some (.ref p))) H2) : tSeq (tAsg te (gName i)) tz D σ H := a_setF (D := { D with nx := tz D }) h hm k n
theorem a_setS {i : Nat} {cs' : γ → Cs} {g : γ} {m : Option (α × γ)} (h : SM ra te σ F cs m cs') (hm : m = some (d, g)) (k : Cov c F cs H) (n : ∀ v F2 H2, Ex F F2 → Cov c F2 (cs' g) H2 → ra.r F2 v d → D.nx (σ.set i (some v)) H2) : tAsg te (gName i) D σ H := h d g hm c F H (Evl.Ex.refl _) k _ fun v F2 H2 e2 k2 r2 => n v F2 H2 e2 k2 r2
theorem q_setS {i : Nat} {cs' : γ → Cs} {g : γ} {m : Option (α × γ)} (h : SM ra te σ F cs m cs') (hm : m = some (d, g)) (k : Cov c F cs H) (n : ∀ v F2 H2, Ex F F2 → Cov c F2 (cs' g) H2 → ra.r F2 v d → tz D (σ.set i (some v)) H2) : tSeq (tAsg te (gName i)) tz D σ H := a_setS (D := { D with nx := tz D }) h hm k n
theorem a_setSF {i : Nat} {cs' : γ → Cs} {g : γ} {ds : List α} {m : Option (List α × γ)} (h : SF ra te σ F cs m cs') (hm : m = some (ds, g)) (k : Cov c F cs H) (n : ∀ p F2 H2, Ex F F2 → Cov c F2 (cs' g ++ [(p, cLst ra ds)]) H2 → c.H0 p = none → D.nx (σ.set i (some (.ref p))) H2) : tAsg te (gName i) D σ H := h ds g hm c F H (Evl.Ex.refl _) k _ fun v F2 H2 e2 k2 r2 => n v F2 H2 e2 k2 r2
theorem q_setSF {i : Nat} {cs' : γ → Cs} {g : γ} {ds : List α} {m : Option (List α × γ)} (h : SF ra te σ F cs m cs') (hm : m = some (ds, g)) (k : Cov c F cs H) (n : ∀ p F2 H2, Ex F F2 → Cov c F2 (cs' g ++ [(p, cLst ra ds)]) H2 → c.H0 p = none → tz D (σ.set i (some (.ref p))) H2) : tSeq (tAsg te (gName i)) tz D σ H := a_setSF (D := { D with nx := tz D }) h hm k n
theorem a_par {i j : Nat} {e : β} {m2 : Option β} (h : EM ra ta σ F cs m) (h2 : EM rb tb σ F cs m2) (hm : m = some d) (hm2 : m2 = some e) (k : Cov c F cs H) (n : ∀ v w F2 H2, Ex F F2 → Cov c F2 cs H2 → ra.r F2 v d → rb.r F2 w e → D.nx ((σ.set i (some v)).set j (some w)) H2) : tPar i j (tCons ta (tCons tb tNil)) D σ H :=
  h d hm c F H (Evl.Ex.refl _) k _ fun v F2 H2 e2 k2 r2 => h2 e hm2 c F2 H2 e2 k2 _ fun w F3 H3 e3 k3 r3 => ⟨v, w, rfl, n v w F3 H3 (e2.trans e3) k3 (ra.up e3 r2) r3⟩
theorem q_par {i j : Nat} {e : β} {m2 : Option β} (h : EM ra ta σ F cs m) (h2 : EM rb tb σ F cs m2) (hm : m = some d) (hm2 : m2 = some e) (k : Cov c F cs H) (n : ∀ v w F2 H2, Ex F F2 → Cov c F2 cs H2 → ra.r F2 v d → rb.r F2 w e → tz D ((σ.set i (some v)).set j (some w)) H2) : tSeq (tPar i j (tCons ta (tCons tb tNil))) tz D σ H :=
  a_par (D := { D with nx := tz D }) h h2 hm hm2 k n
theorem a_aug {i : Nat} {f : Int → Int → Int} {a b : Int} {v : V} {F0 : Hp} {mi : Option Int} (hx : σ[i]? = some (some v)) (rv : rInt.r F0 v a) (h : EM rInt te σ F cs mi) (hm : mi = some b) (k : Cov c F cs H) (n : ∀ v F2 H2, Ex F F2 → Cov c F2 cs H2 → rInt.r F2 v (f a b) → D.nx (σ.set i (some v)) H2) : tAug i te (ipI f) D σ H :=
  ⟨v, hx, h b hm c F H (Evl.Ex.refl _) k _ fun w F2 H2 e2 k2 r2 => ⟨a, b, rv, r2, n _ F2 H2 e2 k2 rfl⟩⟩
theorem q_aug {i : Nat} {f : Int → Int → Int} {a b : Int} {v : V} {F0 : Hp} {mi : Option Int} (hx : σ[i]? = some (some v)) (rv : rInt.r F0 v a) (h : EM rInt te σ F cs mi) (hm : mi = some b) (k : Cov c F cs H) (n : ∀ v F2 H2, Ex F F2 → Cov c F2 cs H2 → rInt.r F2 v (f a b) → tz D (σ.set i (some v)) H2) : tSeq (tAug i te (ipI f)) tz D σ H := a_aug (D := { D with nx := tz D }) hx rv h hm k n
theorem a_drop (h : EM ra te σ F cs m) (hm : m = some d) (k : Cov c F cs H) (n : ∀ F2 H2, Ex F F2 → Cov c F2 cs H2 → D.nx σ H2) : tDrop te D σ H := h d hm c F H (Evl.Ex.refl _) k _ fun v F2 H2 e2 k2 r2 => n F2 H2 e2 k2
theorem q_drop (h : EM ra te σ F cs m) (hm : m = some d) (k : Cov c F cs H) (n : ∀ F2 H2, Ex F F2 → Cov c F2 cs H2 → tz D σ H2) : tSeq (tDrop te) tz D σ H := a_drop (D := { D with nx := tz D }) h hm k n
theorem a_dropS {cs' : γ → Cs} {g : γ} {m : Option (α × γ)} (h : SM ra te σ F cs m cs') (hm : m = some (d, g)) (k : Cov c F cs H) (n : ∀ F2 H2, Ex F F2 → Cov c F2 (cs' g) H2 → D.nx σ H2) : tDrop te D σ H := h d g hm c F H (Evl.Ex.refl _) k _ fun v F2 H2 e2 k2 r2 => n F2 H2 e2 k2
theorem q_dropS {cs' : γ → Cs} {g : γ} {m : Option (α × γ)} (h : SM ra te σ F cs m cs') (hm : m = some (d, g)) (k : Cov c F cs H) (n : ∀ F2 H2, Ex F F2 → Cov c F2 (cs' g) H2 → tz D σ H2) : tSeq (tDrop te) tz D σ H := a_dropS (D := { D with nx := tz D }) h hm k n
/-- xs.append(e), xs a cell -/
theorem a_app {i j : Nat} {p : Addr} {ds : List α} (hx : σ[i]? = some (some (.ref p))) (hj : cs[j]? = some (p, cLst ra ds)) (h : EM ra te σ F cs m) (hm : m = some d) (hz : ds.length ≤ 16000000) (k : Cov c F cs H)
    (n : ∀ F2 H2, Ex F F2 → Cov c F2 (cs.set j (p, cLst ra (ds ++ [d]))) H2 → D.nx σ H2) : tDrop (tBM K "list" rAppend (tVar i) (tCons te tNil)) D σ H := by
  refine ⟨_, hx, ?_, ?_⟩
  · obtain ⟨_, _, o, h3, vs, rfl, h4⟩ := k.at_ j hj
    exact .inl ⟨rfl, _, SqL.of h3⟩
  · refine h d hm c F H (Evl.Ex.refl _) k _ fun v F2 H2 e2 k2 r2 => ?_
    obtain ⟨_, _, o, h3, vs, rfl, h4⟩ := k2.at_ j hj
    exact ⟨p, vs, v, rfl, rfl, h3, sz_lt (by rw [h4.length]; omega), n F2 _ e2 (k2.set j hj ⟨_, rfl, h4.snoc r2⟩)⟩
theorem q_app {i j : Nat} {p : Addr} {ds : List α} (hx : σ[i]? = some (some (.ref p))) (hj : cs[j]? = some (p, cLst ra ds)) (h : EM ra te σ F cs m) (hm : m = some d) (hz : ds.length ≤ 16000000) (k : Cov c F cs H)
    (n : ∀ F2 H2, Ex F F2 → Cov c F2 (cs.set j (p, cLst ra (ds ++ [d]))) H2 → tz D σ H2) : tSeq (tDrop (tBM K "list" rAppend (tVar i) (tCons te tNil))) tz D σ H := a_app (D := { D with nx := tz D }) hx hj h hm hz k n
def appG {α : Type} (l : List α) (x : α) : Option (List α) := if l.length ≤ 16000000 then some (l ++ [x]) else none
theorem appG_some {α : Type} {l d : List α} {x : α} (h : appG l x = some d) : d = l ++ [x] ∧ l.length ≤ 16000000 := by
  unfold appG at h
  split at h
  · cases h; exact ⟨rfl, by assumption⟩
  · cases h
/-- xs[i] = e, xs a cell -/
theorem a_sub {i j : Nat} {p : Addr} {ds ds' : List α} {ix : Int} {mi : Option Int} {ti : TE} (hx : σ[i]? = some (some (.ref p))) (hj : cs[j]? = some (p, cLst ra ds)) (h : EM ra te σ F cs m) (hi : EM rInt ti σ F cs mi) (hm : m = some d) (hmi : mi = some ix) (hset : setG ds ix d = some ds') (k : Cov c F cs H)
    (n : ∀ F2 H2, Ex F F2 → Cov c F2 (cs.set j (p, cLst ra ds')) H2 → D.nx σ H2) : tAsg te (gSub (tVar i) ti rSetL) D σ H := by
  refine h d hm c F H (Evl.Ex.refl _) k _ fun v F2 H2 e2 k2 r2 => ?_
  refine ⟨_, hx, hi ix hmi c F2 H2 e2 k2 _ fun w F3 H3 e3 k3 r3 => ?_⟩
  cases r3
  obtain ⟨_, _, o, h3, vs, rfl, h4⟩ := k3.at_ j hj
  unfold setG at hset
  cases q : ixN ds.length ix with
  | none => rw [q] at hset; cases hset
  | some jj =>
    rw [q] at hset
    cases hset
    exact ⟨p, vs, ix, jj, rfl, rfl, h3, by rw [h4.length]; exact q, n F3 _ (e2.trans e3) (k3.set j hj ⟨_, rfl, h4.set jj (ra.up e3 r2)⟩)⟩
theorem q_sub {i j : Nat} {p : Addr} {ds ds' : List α} {ix : Int} {mi : Option Int} {ti : TE} (hx : σ[i]? = some (some (.ref p))) (hj : cs[j]? = some (p, cLst ra ds)) (h : EM ra te σ F cs m) (hi : EM rInt ti σ F cs mi) (hm : m = some d) (hmi : mi = some ix) (hset : setG ds ix d = some ds') (k : Cov c F cs H)
    (n : ∀ F2 H2, Ex F F2 → Cov c F2 (cs.set j (p, cLst ra ds')) H2 → tz D σ H2) : tSeq (tAsg te (gSub (tVar i) ti rSetL)) tz D σ H := a_sub (D := { D with nx := tz D }) hx hj h hi hm hmi hset k n
/-! ifs -/
theorem a_if {b : Bool} {mb : Option Bool} (h : ET t σ F cs mb) (hm : mb = some b) (k : Cov c F cs H) (h1 : b = true → ∀ F2 H2, Ex F F2 → Cov c F2 cs H2 → tu D σ H2) (h2 : b = false → ∀ F2 H2, Ex F F2 → Cov c F2 cs H2 → tw D σ H2) : tIfS t tu tw D σ H := h b hm c F H (Evl.Ex.refl _) k _ fun F2 H2 e2 k2 => by
  cases b with
  | true =>
    show tu D σ H2
    exact h1 rfl F2 H2 e2 k2
  | false =>
    show tw D σ H2
    exact h2 rfl F2 H2 e2 k2
theorem q_if {b : Bool} {mb : Option Bool} (h : ET t σ F cs mb) (hm : mb = some b) (k : Cov c F cs H) (h1 : b = true → ∀ F2 H2, Ex F F2 → Cov c F2 cs H2 → tu { D with nx := tz D } σ H2) (h2 : b = false → ∀ F2 H2, Ex F F2 → Cov c F2 cs H2 → tw { D with nx := tz D } σ H2) : tSeq (tIfS t tu tw) tz D σ H := a_if (D := { D with nx := tz D }) h hm k h1 h2
theorem a_ifS {cs' : γ → Cs} {g : γ} {b : Bool} {mb : Option (Bool × γ)} (h : ST t σ F cs mb cs') (hm : mb = some (b, g)) (k : Cov c F cs H) (h1 : b = true → ∀ F2 H2, Ex F F2 → Cov c F2 (cs' g) H2 → tu D σ H2) (h2 : b = false → ∀ F2 H2, Ex F F2 → Cov c F2 (cs' g) H2 → tw D σ H2) : tIfS t tu tw D σ H := h b g hm c F H (Evl.Ex.refl _) k _ fun F2 H2 e2 k2 => by
  cases b with
  | true =>
    show tu D σ H2
    exact h1 rfl F2 H2 e2 k2
  | false =>
    show tw D σ H2
    exact h2 rfl F2 H2 e2 k2
theorem q_ifS {cs' : γ → Cs} {g : γ} {b : Bool} {mb : Option (Bool × γ)} (h : ST t σ F cs mb cs') (hm : mb = some (b, g)) (k : Cov c F cs H) (h1 : b = true → ∀ F2 H2, Ex F F2 → Cov c F2 (cs' g) H2 → tu { D with nx := tz D } σ H2) (h2 : b = false → ∀ F2 H2, Ex F F2 → Cov c F2 (cs' g) H2 → tw { D with nx := tz D } σ H2) : tSeq (tIfS t tu tw) tz D σ H := a_ifS (D := { D with nx := tz D }) h hm k h1 h2
theorem q_cut {Mid : L2.St → Hp → Prop} (h : tu { D with nx := Mid } σ H) (k : ∀ σ' H', Mid σ' H' → tz D σ' H') : Evl.tCut tu tz D σ H := ⟨Mid, h, k⟩
/-! return -/
theorem a_ret (h : EM ra te σ F cs m) (hm : m = some d) (k : Cov c F cs H) (n : ∀ v F2 H2, Ex F F2 → Cov c F2 cs H2 → ra.r F2 v d → D.rt v H2) : tRet te D σ H := h d hm c F H (Evl.Ex.refl _) k _ n
theorem a_retF {ds : List α} {m : Option (List α)} (h : EF ra te σ F cs m) (hm : m = some ds) (k : Cov c F cs H) (n : ∀ p F2 H2, Ex F F2 → Cov c F2 (cs ++ [(p, cLst ra ds)]) H2 → D.rt (.ref p) H2) : tRet te D σ H := h ds hm c F H (Evl.Ex.refl _) k _ fun p F2 H2 e2 k2 n2 => n p F2 H2 e2 k2
theorem a_retS {cs' : γ → Cs} {g : γ} {m : Option (α × γ)} (h : SM ra te σ F cs m cs') (hm : m = some (d, g)) (k : Cov c F cs H) (n : ∀ v F2 H2, Ex F F2 → Cov c F2 (cs' g) H2 → ra.r F2 v d → D.rt v H2) : tRet te D σ H := h d g hm c F H (Evl.Ex.refl _) k _ n
theorem a_retSF {cs' : γ → Cs} {g : γ} {ds : List α} {m : Option (List α × γ)} (h : SF ra te σ F cs m cs') (hm : m = some (ds, g)) (k : Cov c F cs H) (n : ∀ p F2 H2, Ex F F2 → Cov c F2 (cs' g ++ [(p, cLst ra ds)]) H2 → D.rt (.ref p) H2) : tRet te D σ H := h ds g hm c F H (Evl.Ex.refl _) k _ fun p F2 H2 e2 k2 n2 => n p F2 H2 e2 k2
end
/-! ### for -/
section
variable {α γ ρ : Type} {ra : Rp α} {σ : L2.St} {F H : Hp} {cs : Cs} {K : PySem.W.Frag} {wi : TI} {g : TG} {tb tz : TS} {D : Ends} {c : Act} {m : Option (List α)} {ds : List α}
theorem fold_drop {f : α → γ → Option γ} {ds : List α} {i : Nat} {d : α} {s : γ} (h : ds[i]? = some d) : oFold f (ds.drop i) s = (f d s).bind (oFold f (ds.drop (i + 1))) := by
  obtain ⟨h1, h2⟩ := List.getElem?_eq_some_iff.mp h
  rw [List.drop_eq_getElem_cons h1, h2] <;> rfl
theorem loop_drop {f : α → γ → Option (Lp γ ρ)} {ds : List α} {i : Nat} {d : α} {s : γ} (h : ds[i]? = some d) : oLoop f (ds.drop i) s = (f d s).bind fun o => match o with
    | .go g' => oLoop f (ds.drop (i + 1)) g'
    | .brk g' => some (.nx g')
    | .ret r => some (.ret r) := by
  obtain ⟨h1, h2⟩ := List.getElem?_eq_some_iff.mp h
  rw [List.drop_eq_getElem_cons h1, h2] <;> rfl
/-- the state between two turns: what the invariant says of the data, the slots, the frozen part and the heap -/
abbrev Inva (γ : Type) := γ → L2.St → Hp → Hp → Prop
/-- for target in ..: body, every turn to its end -/
theorem a_for {f : α → γ → Option γ} {g0 g1 : γ} (hw : EI ra wi σ F cs m) (hm : m = some ds) (k : Cov c F cs H) (hf : oFold f ds g0 = some g1)
    (n : ∀ F2 H2, Ex F F2 → Cov c F2 cs H2 → ∃ (J : Inva γ) (cj : γ → Cs), J g0 σ F2 H2 ∧ (∀ x σ' F' H', J x σ' F' H' → Ex F2 F' ∧ Cov c F' (cj x) H') ∧
      (∀ d v x x' σ' F' H' F3 H3, J x σ' F' H' → Ex F' F3 → Cov c F3 (cj x) H3 → ra.r F3 v d → f d x = some x' →
        g v σ' H3 fun σ2 H4 => tb { D with nx := fun σ' H' => ∃ F', J x' σ' F' H', ct := fun σ' H' => ∃ F', J x' σ' F' H', bk := D.nx } σ2 H4) ∧
      (∀ σ' F' H', J g1 σ' F' H' → D.nx σ' H')) : tFor wi g tb D σ H := by
  refine hw ds hm c F H (Evl.Ex.refl _) k _ fun J0 F2 H2 e2 k2 G => ?_
  obtain ⟨J, cj, j0, stay, turn, fin⟩ := n F2 H2 e2 k2
  refine ⟨fun i m σ H => m = ds.length - i ∧ i ≤ ds.length ∧ ∃ x F', oFold f (ds.drop i) x = some g1 ∧ J x σ F' H, ⟨ds.length, by simp, Nat.zero_le _, g0, F2, hf, j0⟩, ?_⟩
  rintro i m σ H ⟨rfl, hi, x, F', hx, jx⟩
  obtain ⟨e3, k3⟩ := stay _ _ _ _ jx
  by_cases hlt : i < ds.length
  · have hd : ds[i]? = some ds[i] := by simp [hlt]
    obtain ⟨g1', g2⟩ := G.go i _ hd c F' _ H e3 k3
    rw [fold_drop hd] at hx
    obtain ⟨x', h1, h2⟩ := bind_some hx
    refine .inr ⟨g1', fun σ' H' => ∃ F', J x' σ' F' H', fun σ' H' ⟨F'', j'⟩ => ⟨ds.length - (i + 1), by omega, rfl, hlt, x', F'', h2, j'⟩, fun v H' y => ?_⟩
    obtain ⟨F4, e4, c4, r4⟩ := g2 v H' y
    exact turn _ v x x' σ F' H F4 H' jx e4 (c4 c _ k3) r4 h1
  · have e : i = ds.length := by omega
    subst e
    rw [List.drop_length] at hx
    cases hx
    exact .inl ⟨G.stop c F' _ H e3 k3, fin σ F' H jx⟩
/-- for, a turn that may leave -/
theorem a_loop {f : α → γ → Option (Lp γ ρ)} {g0 : γ} {out : Out γ ρ} (hw : EI ra wi σ F cs m) (hm : m = some ds) (k : Cov c F cs H) (hf : oLoop f ds g0 = some out)
    (n : ∀ F2 H2, Ex F F2 → Cov c F2 cs H2 → ∃ (J : Inva γ) (cj : γ → Cs), J g0 σ F2 H2 ∧ (∀ x σ' F' H', J x σ' F' H' → Ex F2 F' ∧ Cov c F' (cj x) H') ∧
      (∀ d v x o σ' F' H' F3 H3, J x σ' F' H' → Ex F' F3 → Cov c F3 (cj x) H3 → ra.r F3 v d → f d x = some o → (∀ r, o = .ret r → out = .ret r) → (∀ x', o = .brk x' → out = .nx x') →
        g v σ' H3 fun σ2 H4 => tb { D with nx := fun σ' H' => ∃ F' x', o = .go x' ∧ J x' σ' F' H', ct := fun σ' H' => ∃ F' x', o = .go x' ∧ J x' σ' F' H', bk := D.nx } σ2 H4) ∧
      (∀ x σ' F' H', out = .nx x → J x σ' F' H' → D.nx σ' H')) : tFor wi g tb D σ H := by
  refine hw ds hm c F H (Evl.Ex.refl _) k _ fun J0 F2 H2 e2 k2 G => ?_
  obtain ⟨J, cj, j0, stay, turn, fin⟩ := n F2 H2 e2 k2
  refine ⟨fun i m σ H => m = ds.length - i ∧ i ≤ ds.length ∧ ∃ x F', oLoop f (ds.drop i) x = some out ∧ J x σ F' H, ⟨ds.length, by simp, Nat.zero_le _, g0, F2, hf, j0⟩, ?_⟩
  rintro i m σ H ⟨rfl, hi, x, F', hx, jx⟩
  obtain ⟨e3, k3⟩ := stay _ _ _ _ jx
  by_cases hlt : i < ds.length
  · have hd : ds[i]? = some ds[i] := by simp [hlt]
    obtain ⟨g1', g2⟩ := G.go i _ hd c F' _ H e3 k3
    rw [loop_drop hd] at hx
    obtain ⟨o, h1, h2⟩ := bind_some hx
    refine .inr ⟨g1', fun σ' H' => ∃ F' x', o = .go x' ∧ J x' σ' F' H', fun σ' H' ⟨F'', x', eo, j'⟩ => ⟨ds.length - (i + 1), by omega, rfl, hlt, x', F'', by rw [eo] at h2; exact h2, j'⟩, fun v H' y => ?_⟩
    obtain ⟨F4, e4, c4, r4⟩ := g2 v H' y
    exact turn _ v x o σ F' H F4 H' jx e4 (c4 c _ k3) r4 h1 (fun r er => by rw [er] at h2; exact (Option.some.inj h2).symm) (fun x' er => by rw [er] at h2; exact (Option.some.inj h2).symm)
  · have e : i = ds.length := by omega
    subst e
    rw [List.drop_length] at hx
    cases hx
    exact .inl ⟨G.stop c F' _ H e3 k3, fin x σ F' H rfl jx⟩
end
/-! ### while -/
section
variable {γ ρ : Type} {σ : L2.St} {F H : Hp} {t : TT} {tb : TS} {D : Ends} {c : Act}
theorem a_while {tt : γ → Option Bool} {f : γ → Option γ} {fuel : Nat} {g0 g1 : γ} (hf : oWhile tt f fuel g0 = some g1) (J : Inva γ) (cj : γ → Cs) (j0 : J g0 σ F H)
    (cov : ∀ x σ' F' H', J x σ' F' H' → Cov c F' (cj x) H') (test : ∀ x σ' F' H', J x σ' F' H' → ET t σ' F' (cj x) (tt x)) (stab : ∀ x σ' F' H' F2 H2, J x σ' F' H' → Ex F' F2 → Cov c F2 (cj x) H2 → J x σ' F2 H2)
    (turn : ∀ x x' σ' F' H', J x σ' F' H' → tt x = some true → f x = some x' → tb { D with nx := fun σ' H' => ∃ F', J x' σ' F' H', ct := fun σ' H' => ∃ F', J x' σ' F' H', bk := D.nx } σ' H')
    (fin : ∀ σ' F' H', tt g1 = some false → J g1 σ' F' H' → D.nx σ' H') : tWhile t tb D σ H := by
  refine ⟨fun n σ H => ∃ x F, oWhile tt f n x = some g1 ∧ J x σ F H, ⟨fuel, g0, F, hf, j0⟩, ?_⟩
  rintro n σ H ⟨x, F, hx, jx⟩
  cases n with
  | zero => cases hx
  | succ n =>
    obtain ⟨b, h1, h2⟩ := bind_some hx
    refine test x σ F H jx b h1 c F H (Evl.Ex.refl _) (cov _ _ _ _ jx) _ fun F2 H2 e2 k2 => ?_
    have j2 := stab _ _ _ _ _ _ jx e2 k2
    cases b with
    | true =>
      obtain ⟨x', h3, h4⟩ := bind_some h2
      rw [if_pos rfl]
      exact ⟨fun σ' H' => ∃ F', J x' σ' F' H', fun σ' H' ⟨F', j'⟩ => ⟨n, Nat.lt_succ_self _, x', F', h4, j'⟩, turn x x' σ F2 H2 j2 h1 h3⟩
    | false =>
      rw [if_neg Bool.false_ne_true]
      have e : x = g1 := Option.some.inj h2
      subst e
      exact fin σ F2 H2 h1 j2
theorem a_whileL {tt : γ → Option Bool} {f : γ → Option (Lp γ ρ)} {fuel : Nat} {g0 : γ} {out : Out γ ρ} (hf : oWhileL tt f fuel g0 = some out) (J : Inva γ) (cj : γ → Cs) (j0 : J g0 σ F H)
    (cov : ∀ x σ' F' H', J x σ' F' H' → Cov c F' (cj x) H') (test : ∀ x σ' F' H', J x σ' F' H' → ET t σ' F' (cj x) (tt x)) (stab : ∀ x σ' F' H' F2 H2, J x σ' F' H' → Ex F' F2 → Cov c F2 (cj x) H2 → J x σ' F2 H2)
    (turn : ∀ x o σ' F' H', J x σ' F' H' → tt x = some true → f x = some o → (∀ r, o = .ret r → out = .ret r) → (∀ x', o = .brk x' → out = .nx x') → tb { D with nx := fun σ' H' => ∃ F' x', o = .go x' ∧ J x' σ' F' H', ct := fun σ' H' => ∃ F' x', o = .go x' ∧ J x' σ' F' H', bk := D.nx } σ' H')
    (fin : ∀ x σ' F' H', out = .nx x → J x σ' F' H' → D.nx σ' H') : tWhile t tb D σ H := by
  refine ⟨fun n σ H => ∃ x F, oWhileL tt f n x = some out ∧ J x σ F H, ⟨fuel, g0, F, hf, j0⟩, ?_⟩
  rintro n σ H ⟨x, F, hx, jx⟩
  cases n with
  | zero => cases hx
  | succ n =>
    obtain ⟨b, h1, h2⟩ := bind_some hx
    refine test x σ F H jx b h1 c F H (Evl.Ex.refl _) (cov _ _ _ _ jx) _ fun F2 H2 e2 k2 => ?_
    have j2 := stab _ _ _ _ _ _ jx e2 k2
    cases b with
    | true =>
      obtain ⟨o, h3, h4⟩ := bind_some h2
      rw [if_pos rfl]
      exact ⟨fun σ' H' => ∃ F' x', o = .go x' ∧ J x' σ' F' H', fun σ' H' ⟨F', x', eo, j'⟩ => ⟨n, Nat.lt_succ_self _, x', F', by rw [eo] at h4; exact h4, j'⟩, turn x o σ F2 H2 j2 h1 h3 (fun r er => by rw [er] at h4; exact (Option.some.inj h4).symm) (fun x' er => by rw [er] at h4; exact (Option.some.inj h4).symm)⟩
    | false =>
      rw [if_neg Bool.false_ne_true]
      have e : Out.nx x = out := Option.some.inj h2
      exact fin x σ F2 H2 e.symm j2
end
/-! ### a def, seen by its callers -/
structure Cal (P : Program) (w : World) (K : PySem.W.Frag) (mg : Str → Option Value) (base : Heap) (k : Nat) (x : Str) (ps : List Str) (sp : Sp) (X : FuncData → Prop) : Prop where
  ex : ∃ f fd, FnOk P w K mg base CX0 k f fd ps sp ∧ mg x = some (.ref f) ∧ PySem.W.keepIn K (.ref f) = true ∧ Binds K fd ps [] ∧ X fd
theorem Cov.init {F H : Hp} (h : Ex F H) : Cov ⟨H, F, []⟩ F [] H := ⟨h, Evl.Ex.refl F, fun _ hy => absurd hy List.not_mem_nil, List.nodup_nil, fun _ _ _ e => e, fun _ _ e => Or.inl e, fun _ e => e, fun _ hb => absurd hb List.not_mem_nil⟩
theorem ifT {α : Type} {a b : α} : (if true = true then a else b) = a := if_pos rfl
theorem ifF {α : Type} {a b : α} : (if false = true then a else b) = b := if_neg Bool.false_ne_true
theorem em_powC {σ : L2.St} {F : Hp} {cs : Cs} {a b : Int} {n : Nat} (hb : b = (n : Int)) (hn : n ≤ 1000000) (ha : a.natAbs < 2 ^ 64) : EM rInt (tOp (rI CPow fun i j => .int (i ^ j.toNat)) (tC (.int a)) (tC (.int b))) σ F cs (some (a ^ n)) := fun d q c F1 H e k Q hQ => by
  cases q
  subst hb
  exact ⟨a, n, rfl, rfl, ⟨by omega, by omega, ha⟩, hQ _ F1 H (Evl.Ex.refl _) k (by show V.int (a ^ ((n : Int)).toNat) = _; rw [Int.toNat_natCast])⟩
section
variable {α : Type} {ra : Rp α} {σ : L2.St} {F : Hp} {cs : Cs} {te : TE} {K : PySem.W.Frag} {m : Option α}
/-- isinstance(e, T), told by the kind of the data -/
def IsT (K : PySem.W.Frag) (ra : Rp α) (u : Value) (b : α → Bool) : Prop := ∀ F H v a, Ex F H → ra.r F v a → ∃ t, TyX K H v t ∧ PySem.W.kitOne K t u = some (b a)
theorem em_isi {n : String} {b : α → Bool} (hb : IsT K ra (.type n) b) (h : EM ra te σ F cs m) : EM rBool (tCB (rIsi K) (tCons te (tCons (tC (.ty n)) tNil))) σ F cs (m.map b) := fun d q c F1 H e k Q hQ => by
  cases m with
  | none => cases q
  | some a =>
    cases q
    refine h a rfl c F1 H e k _ fun v F2 H2 e2 k2 r2 => ?_
    obtain ⟨t, h1, h2⟩ := hb F2 H2 v a k2.ex r2
    exact ⟨v, .ty n, t, .type n, b a, rfl, .ty n, h1, h2, hQ _ F2 H2 e2 k2 rfl⟩
theorem is_bool_bool : IsT K rBool (.type "bool") fun _ => true := fun F H v a e r => by cases r; exact ⟨_, .base (.bl _), kit_ty (by show _ = some true; decide +kernel)⟩
theorem is_bool_int : IsT K rBool (.type "int") fun _ => true := fun F H v a e r => by cases r; exact ⟨_, .base (.bl _), kit_ty (by show _ = some true; decide +kernel)⟩
theorem is_int_int : IsT K rInt (.type "int") fun _ => true := fun F H v a e r => by cases r; exact ⟨_, .base (.int _), kit_ty (by show _ = some true; decide +kernel)⟩
theorem is_int_bool : IsT K rInt (.type "bool") fun _ => false := fun F H v a e r => by cases r; exact ⟨_, .base (.int _), kit_ty (by show _ = some false; decide +kernel)⟩
end
end Mw

set_option maxHeartbeats 2000000
/-! rules of the machine that the hand layer lacks -/
namespace Mw
open PySem PySem.Spec PyProof.Rows L2
open Evl (Ex)
section
variable {prog : Program} {w : World} {A : Around} {E : Value → Shared → Prop} {s : Shared}
theorem sliceApplied_rev {sl : Addr} {vs : Value} {n : Nat} {Q : Int × Int × Nat → Shared → Prop} (hs : s.heap.IsSliceOf sl .none .none vs) (ps : IsPart vs (some (-1)))
    (h : Q ((n : Int) - 1, -1, n) s) : wpAny (model prog w) A (Builtin.Slice.sliceApplied (.ref sl) (pure (n : Int))) Q E s := by
  obtain ⟨os, hos, hcs, hds⟩ := id hs
  unfold Builtin.Slice.sliceApplied Builtin.Slice.sliceFields
  refine wpAny_bind (wpAny_bind (wpAny_field hos hds (x := .none) rfl (wpAny_bind (wpAny_field hos hds (x := .none) rfl (wpAny_bind (wpAny_field hos hds (x := vs) rfl (wpAny_pure ?_)))))))
  refine wpAny_bind (HT.slicePart_ ps ?_)
  show wpAny _ _ (if ((-1 : Int) == 0) = true then _ else _) _ _ s
  rw [if_neg (by decide)]
  refine wpAny_bind (HT.slicePart_ .none (wpAny_bind (HT.slicePart_ .none (wpAny_bind (wpAny_pure ?_)))))
  have e1 : Builtin.Slice.sliceAdjust none none (-1) (n : Int) = ((n : Int) - 1, -1) := by
    unfold Builtin.Slice.sliceAdjust
    first
      | rfl
      | simp
  have e2 : Builtin.Slice.slicePlaces ((n : Int) - 1) (-1) (-1) = n := by
    unfold Builtin.Slice.slicePlaces
    first
      | (simp; omega)
      | (have h1 : ¬ ((-1 : Int) > 0) := by decide
         simp only [h1, if_false]
         split <;> omega)
      | (split <;> split <;> omega)
  show wpAny _ _ (match Builtin.Slice.sliceAdjust none none (-1) (n : Int) with | (lo, hi) => pure (lo, (-1 : Int), Builtin.Slice.slicePlaces lo hi (-1))) _ _ s
  rw [e1]
  show wpAny _ _ (pure ((n : Int) - 1, (-1 : Int), Builtin.Slice.slicePlaces ((n : Int) - 1) (-1) (-1))) _ _ s
  rw [e2]
  exact wpAny_pure h
theorem fm_congr {α β : Type} {f g : α → Option β} : ∀ {l : List α}, (∀ x ∈ l, f x = g x) → l.filterMap f = l.filterMap g
  | [], _ => rfl
  | a :: l, h => by
    rw [List.filterMap_cons, List.filterMap_cons, h a List.mem_cons_self, fm_congr fun x hx => h x (List.mem_cons_of_mem _ hx)]
theorem pick_rev (xs : Array Value) : ((List.range xs.size).filterMap fun (m : Nat) => xs[(((xs.size : Int) - 1) + (m : Int) * (-1)).toNat]?).toArray = xs.toList.reverse.toArray := by
  have e : (List.range xs.size).filterMap (fun (m : Nat) => xs[(((xs.size : Int) - 1) + (m : Int) * (-1)).toNat]?) = ((List.range xs.size).map fun k => xs.size - 1 - k).filterMap (xs[·]?) := by
    rw [List.filterMap_map]
    refine fm_congr fun m hm => ?_
    have := List.mem_range.mp hm
    show xs[(((xs.size : Int) - 1) + (m : Int) * (-1)).toNat]? = xs[xs.size - 1 - m]?
    have z : (((xs.size : Int) - 1) + (m : Int) * (-1)).toNat = xs.size - 1 - m := by omega
    rw [z]
  rw [e, PySem.W.krv_range, List.filterMap_reverse, PySem.W.krv_all]
theorem getItem_tuple_rev {t sl : Addr} {items : Array Value} {vs : Value} {Q : Value → Shared → Prop} (ht : IsTup s.heap t items) (hs : s.heap.IsSliceOf sl .none .none vs) (ps : IsPart vs (some (-1)))
    (h : Q (.ref s.heap.objs.size) { s with heap := s.heap.push { cls := .type "tuple", data := .seq items.toList.reverse.toArray } })
    (hsz : items.size ≤ sizeLine) : wpAny (model prog w) A (getItem (.ref t) (.ref sl)) Q E s := by
  have htake : sizeOk (.seq items.toList.reverse.toArray) := by
    show items.toList.reverse.toArray.size ≤ sizeLine
    rw [List.size_toArray, List.length_reverse, Array.length_toList]
    exact hsz
  obtain ⟨os, hos, hcs, hds⟩ := id hs
  have hTs : s.TypeIs (.ref sl) "slice" := ⟨os, hos, hcs⟩
  unfold getItem
  try with_reducible refine wpAny_holding ?_
  first | refine wpAny_bind (wpAny_pure ?_) | skip
  refine wpAny_bind (wpAny_sequenceKey ht.typeIs (by decide) ?_)
  refine wpAny_bind (wpAny_callSpecial?_slot (name := Str.ofString "__getitem__") ht.typeIs PyProof.Rows.slot_tuple_getitem
    (wpAny_call_entry PyProof.Rows.slot_tuple_getitem ht.typeIs entry_tuple_getitem ?_ (args_tuple_getitem _ _)))
  show wpAny _ _ (Builtin.Tuple.tupleItemsOf (.ref t) >>= _) _ _ s
  refine wpAny_bind (tupleItemsOf_ ht ?_)
  refine wpAny_bind (wpAny_typeOf hTs ?_)
  rw [if_pos (by decide)]
  refine wpAny_bind (sliceApplied_rev hs ps ?_)
  have hno : ¬ ((((items.size : Int) - 1) == 0 && (-1 : Int) == 1 && items.size == items.size) = true) := by
    intro q
    rw [Bool.and_eq_true, Bool.and_eq_true] at q
    exact absurd (eq_of_beq q.1.2) (by decide)
  show wpAny _ _ (if (((items.size : Int) - 1) == 0 && (-1 : Int) == 1 && items.size == items.size) = true then _ else _) _ _ s
  rw [if_neg hno, pick_rev]
  first
    | exact wpAny_bind (m := Builtin.Tuple.tupleExact _) (wpAny_newObj_type (wpAny_pure ⟨_, rfl, wpAny_pure h⟩) htake)
    | exact wpAny_bind (m := Builtin.Tuple.tupleExact _) (wpAny_newObj_type (wpAny_bind (wpAny_pure (wpAny_pure ⟨_, rfl, wpAny_pure h⟩))) htake)
    | exact wpAny_bind (wpAny_bind (m := Builtin.Tuple.tupleExact _) (wpAny_newObj_type (wpAny_pure (wpAny_pure ⟨_, rfl, wpAny_pure h⟩)) htake))
    | exact wpAny_bind (wpAny_bind (m := Builtin.Tuple.tupleExact _) (wpAny_newObj_type (wpAny_pure ⟨_, rfl, wpAny_pure h⟩) htake))
end
def tRevT (K : PySem.W.Frag) (te : TE) : TE := fun σ H Q => te σ H fun x H1 => ∃ a xs, x = .ref a ∧ SqT K H1 a xs ∧ ∀ p, H1 p = none → Q (.ref p) (upd H1 p (.tup xs.reverse))
section
variable {X : Cx}
theorem pe_revT {e : Expr} {te : TE} {k : Nat} {p1 p2 p3 pos : Pos} (he : PE X e te) : PE X (.Subscript e (.Slice none none (some (.UnaryOp .USub (.Constant (.int 1) k p1) p2)) p3) pos) (tRevT X.K te) := by
  refine ⟨fun pins s σ H Q I h => ?_⟩
  refine Subscript_ (thn (he.run pins s σ H _ I h) fun v s1 ⟨x, H1, I1, r1, q1⟩ => ?_)
  obtain ⟨a, xs, ex, hx, q⟩ := q1
  subst ex
  cases r1
  have hst : PO X (some (.UnaryOp .USub (.Constant (.int 1) k p1) p2)) (tPart (tUn (rU fun i => .int (-i)) (tC (.int 1)))) := po_some (pe_un un_neg pe_int)
  refine wpAny_Slice (thn (po_none.run pins s1 σ H1 (fun o H2 => o = none ∧ H2 = H1) I1 ⟨rfl, rfl⟩) fun vl s2 ⟨l, H2, I2, pl, el, e2⟩ => ?_)
  subst el e2
  refine thn (po_none.run pins s2 σ H2 (fun o H3 => o = none ∧ H3 = H2) I2 ⟨rfl, rfl⟩) fun vu s3 ⟨u, H3, I3, pu, eu, e3⟩ => ?_
  subst eu e3
  cases pl
  cases pu
  refine thn (hst.run pins s3 σ H3 (fun o H4 => o = some (-1) ∧ H4 = H3) I3 ⟨1, rfl, -1, rfl, rfl, rfl⟩) fun vs s4 ⟨o, H4, I4, ps, eo, e4⟩ => ?_
  subst eo e4
  have I5 : Inv X pins σ H4 { s4 with heap := s4.heap.push { cls := .type "slice", data := .fields #[.none, .none, vs] } } := I4.kept (t' := s4.toks) fun b ob q => Heap.get?_push_of_some _ q
  obtain ⟨its, r, ht, hz⟩ := I5.tuple hx
  have hlen := r.length
  show wpAny (model X.prog X.w) X.A (subscriptTail e (.Slice none none (some (.UnaryOp .USub (.Constant (.int 1) k p1) p2)) p3) (.ref a) (.ref s4.heap.objs.size)) (EP X pins σ Q) X.xe { s4 with heap := s4.heap.push { cls := .type "slice", data := .fields #[.none, .none, vs] } }
  refine tail_any (ops := [.ref a, .ref s4.heap.objs.size]) ht.typeIs (PyProof.Rows.slot_tuple_getitem.lookup) ?_ (by with_unfolding_all rfl)
  refine getItem_tuple_rev ht (Heap.IsSliceOf.new _ .none .none vs) ps ?_ (by rw [List.size_toArray]; omega)
  refine ⟨.ref _, _, I5.laid (t' := s4.toks) (o := .tup xs.reverse) (fun b ob q => Heap.get?_push_of_some _ q) (Nat.le_refl _) ?_, rfl, q _ (I5.hok.fresh (Nat.le_refl _))⟩
  exact ⟨by rw [List.length_reverse]; exact hz, _, r.reverse, IsTup.new _ _⟩
/-- f(k = v, ..) -/
theorem pe_callN0 {CX : CXT} {k : Nat} {f : Addr} {fd : FuncData} {ps ks : List Str} {sp : Sp} {E : XK} {x : Str} {p pos : Pos} {kws : List Keyword} {tk : TA} {g : List Value → List Value → List Value} {gV : List V → List V → List V} (F : FnOk X.prog X.w X.K X.mg X.base CX k f fd ps sp) (hr : Room k X.A) (hg : Gl X x) (hm : X.mg x = some (.ref f)) (hk : PySem.W.keepIn X.K (.ref f) = true) (hb : KBn X.K fd ps 0 ks g gV) (hx : Passes CX X E)
    (hkw : PK X kws tk) (hall : (backToKw pos (keywordEach kws X.env)).all (·.1.isSome) = true := by rfl) (hks : (backToKw pos (keywordEach kws X.env)).filterMap (·.1) = ks := by rfl)
    (hdb : (x == ("__debug__" : Str)) = false := by decide) (hpl : ((backTo pos (starEach [] X.env)).any (·.1) || (backToKw pos (keywordEach kws X.env)).any (·.1.isNone)) = false := by rfl) :
    PE X (.Call (.Name x p) [] kws pos) (tCallN 0 ks.length sp gV E tNil tk) := by
  refine ⟨fun pins s σ H Q I h => ?_⟩
  refine wpAny_Call_Name_kw (ld_glob I hg hm ?_ hdb)
  refine PySem.W.callWith_KW0 (h₀ := X.base) I.ok.mod.kin hk hall ?_ hpl
  refine thn (hkw.run pos pins s σ H _ I h) fun ws s2 ⟨zs, H2, I2, rz, l1, l2, q2⟩ => ⟨I2.kIn, ?_⟩
  rw [hks]
  exact run_fnN (us := []) (vs := []) F hr hb hx I2 .nil rz rfl l2 q2
end
/-- how a plain def binds keywords -/
theorem kbN {K : PySem.W.Frag} {x qual : Str} {params : Arguments} {body : List Stmt} {scope : Scope} {kws : List (Str × V)} {f : Addr} {fd : FuncData} {ps ks : List Str} {n : Nat} {g : List Value → List Value → List Value} {gV : List V → List V → List V} (F : FunD K x qual params body scope [] kws f fd)
    (rel : ∀ {vs : List V} {us : List Value} {zs : List V} {ws : List Value}, Vals vs us → Vals zs ws → Vals (gV vs zs) (g us ws))
    (h : ∀ (kV doc pm : Value) (an : Option Addr) (cdv ct : Value) (us ws : List Value), us.length = n → ws.length = ks.length → bindArgs (PySem.W.fnOf x qual params body scope .none kV doc pm an cdv ct) ⟨us, ks.zip ws⟩ = pure (ps.zip (g us ws))) : KBn K fd ps n ks g gV := by
  obtain ⟨oc, od, dV, kV, doc, pm, an, cdv, ct, osl, rfl, lk, hcd, hD, hK⟩ := F.ex
  rcases hD with ⟨_, rfl⟩ | ⟨e, _⟩
  · exact ⟨fun s us ws _ l1 l2 => .of_eq (h kV doc pm an cdv ct us ws l1 l2), rel⟩
  · exact absurd rfl e
end Mw

set_option maxHeartbeats 2000000
namespace Mw
open PySem L2
open Evl (Ex)
theorem hT {α : Type} {a b c : α} (h : (if true = true then a else b) = c) : a = c := by rw [if_pos rfl] at h; exact h
theorem hF {α : Type} {a b c : α} (h : (if false = true then a else b) = c) : b = c := by rw [if_neg Bool.false_ne_true] at h; exact h
theorem oAnd_tt {a b : Bool} : oAnd (some a) (some b) = some (a && b) := by cases a <;> rfl
theorem oOr_tt {a b : Bool} : oOr (some a) (some b) = some (a || b) := by cases a <;> rfl
def oP2 {α β : Type} (a : Option α) (b : Option β) : Option (α × β) := a.bind fun x => b.bind fun y => some (x, y)
theorem oP2_some {α β : Type} {a : Option α} {b : Option β} {x : α} {y : β} (h : oP2 a b = some (x, y)) : a = some x ∧ b = some y := by
  obtain ⟨p, h1, h⟩ := bind_some h
  obtain ⟨q, h2, h⟩ := bind_some h
  cases h
  exact ⟨h1, h2⟩
def oP3 {α β γ : Type} (a : Option α) (b : Option β) (c : Option γ) : Option (α × β × γ) := a.bind fun x => b.bind fun y => c.bind fun z => some (x, y, z)
theorem oP3_some {α β γ : Type} {a : Option α} {b : Option β} {c : Option γ} {d : α × β × γ} (h : oP3 a b c = some d) : a = some d.1 ∧ b = some d.2.1 ∧ c = some d.2.2 := by
  obtain ⟨p, h1, h⟩ := bind_some h
  obtain ⟨q, h2, h⟩ := bind_some h
  obtain ⟨r, h3, h⟩ := bind_some h
  cases h
  exact ⟨h1, h2, h3⟩
theorem nxh {σ : L2.St} {H : Hp} {P : L2.St → Hp → Prop} {rt : VK} {bk ct : L2.St → Hp → Prop} (h : P σ H) : Ends.nx { nx := P, rt := rt, bk := bk, ct := ct } σ H := h
theorem gn {i : Nat} {v : V} {σ : L2.St} {H : Hp} {Q : L2.St → Hp → Prop} {σ1 : L2.St} (e : σ.set i (some v) = σ1) (h : Q σ1 H) : gName i v σ H Q := by
  show Q (σ.set i (some v)) H
  rw [e]
  exact h
section
variable {α β γ ρ : Type} {ra : Rp α} {rb : Rp β} {rc : Rp γ} {σ : L2.St} {F H F' H' : Hp} {cs : Cs} {K : PySem.W.Frag} {te ta tb tc : TE} {t : TT} {tu tw tz : TS} {D : Ends} {c : Act} {d : α} {m : Option α} {x : Cp} {p : Addr} {ds : List α}
/-- an if without else whose way leaves -/
theorem q_ife {b : Bool} {mb : Option Bool} (h : ET t σ F cs mb) (hm : mb = some b) (k : Cov c F cs H) (h1 : b = true → ∀ F2 H2, Ex F F2 → Cov c F2 cs H2 → tu { D with nx := tz D } σ H2) (h2 : b = false → ∀ F2 H2, Ex F F2 → Cov c F2 cs H2 → tz D σ H2) : tSeq (tIfS t tu tNext) tz D σ H := a_if (D := { D with nx := tz D }) h hm k h1 h2
theorem q_ifeS {cs' : γ → Cs} {g : γ} {b : Bool} {mb : Option (Bool × γ)} (h : ST t σ F cs mb cs') (hm : mb = some (b, g)) (k : Cov c F cs H) (h1 : b = true → ∀ F2 H2, Ex F F2 → Cov c F2 (cs' g) H2 → tu { D with nx := tz D } σ H2) (h2 : b = false → ∀ F2 H2, Ex F F2 → Cov c F2 (cs' g) H2 → tz D σ H2) : tSeq (tIfS t tu tNext) tz D σ H := a_ifS (D := { D with nx := tz D }) h hm k h1 h2
theorem em_revT {m : Option (List α)} (h : EM (rTup K ra) te σ F cs m) : EM (rTup K ra) (tRevT K te) σ F cs (m.map List.reverse) := fun d q c F1 H e k Q hQ => by
  cases m with
  | none => cases q
  | some a =>
    cases q
    refine h a rfl c F1 H e k _ fun v F2 H2 e2 k2 r2 => ?_
    obtain ⟨p, vs, rfl, h1, h2⟩ := r2
    exact ⟨p, vs, rfl, ext_ k2.ex h1, fun l hl => hQ (.ref l) _ _ (e2.trans (Ex.new (k2.fnone hl))) (k2.lay hl) ⟨l, _, rfl, upd_same, Rs.up (Ex.new (k2.fnone hl)) h2.rev⟩⟩
theorem em_cellW {i j : Nat} {p : Addr} (h : σ[i]? = some (some (.ref p))) (hj : cs[j]? = some (p, cLst ra ds)) : EL K ra (tVar i) σ F cs (some ds) := el_cell h hj
theorem em_weak {m : Option (List α)} (h : EM (rLst ra) te σ F cs m) : EM (rLsW K ra) te σ F cs m := fun d q c F1 H e k Q hQ => h d q c F1 H e k Q fun v F2 H2 e2 k2 r2 => by
  obtain ⟨a, vs, rfl, h1, h2⟩ := r2
  exact hQ _ F2 H2 e2 k2 ⟨a, vs, rfl, SqL.of h1, h2⟩
/-! None or a value -/
def NN {α : Type} (ra : Rp α) : Prop := ∀ F v a, ra.r F v a → v ≠ .non
theorem nn_int : NN rInt := fun F v a r e => by cases r; cases e
theorem nn_bool : NN rBool := fun F v a r e => by cases r; cases e
theorem nn_str : NN rStr := fun F v a r e => by cases r; cases e
theorem nn_tup : NN (rTup K ra) := fun F v a r e => by obtain ⟨_, _, rfl, _⟩ := r; cases e
theorem nn_lst : NN (rLst ra) := fun F v a r e => by obtain ⟨_, _, rfl, _⟩ := r; cases e
theorem nn_p2 : NN (rP2 K ra rb) := fun F v a r e => by obtain ⟨_, _, _, rfl, _⟩ := r; cases e
theorem nn_p3 : NN (rP3 K ra rb rc) := fun F v a r e => by obtain ⟨_, _, _, _, rfl, _⟩ := r; cases e
theorem em_opt (n : NN ra) (h : EM ra te σ F cs m) : EM (rOpt ra) te σ F cs (m.map some) := fun d q c F1 H e k Q hQ => by
  cases m with
  | none => cases q
  | some a =>
    cases q
    exact h a rfl c F1 H e k Q fun v F2 H2 e2 k2 r2 => hQ v F2 H2 e2 k2 ⟨n _ _ _ r2, r2⟩
/-! in (a, b, ..) -/
def inG (a : Int) (l : List Int) : Option Bool := some (decide (a ∈ l))
def notInG (a : Int) (l : List Int) : Option Bool := some (!decide (a ∈ l))
theorem inV_int {a : Int} : ∀ {l : List Int}, inV (.int a) (l.map V.int) = decide (a ∈ l)
  | [] => rfl
  | b :: l => by
    have ih := inV_int (a := a) (l := l)
    unfold inV at ih ⊢
    rw [List.map_cons, List.any_cons, ih]
    have e : eqV (V.int b) (V.int a) = decide (a = b) := by
      show (b == a) = decide (a = b)
      by_cases h : a = b
      · subst h; simp
      · rw [decide_eq_false h]; simpa using fun e => h e.symm
    rw [e]
    by_cases h1 : a = b <;> by_cases h2 : a ∈ l <;> simp [h1, h2]
theorem flat_ints : ∀ l : List Int, (l.map V.int).all flatV = true
  | [] => rfl
  | a :: l => by rw [List.map_cons, List.all_cons, flat_ints l] <;> rfl
theorem vo_inT : VO (rIn K false) rInt (rTup K rInt) rBool inG := fun c F cs H v w a b d k r1 r2 q Q hQ => by
  cases r1
  obtain ⟨p, vs, rfl, h1, h2⟩ := r2
  rw [rs_int h2] at h1
  cases q
  refine ⟨p, b.map V.int, rfl, .inr (ext_ k.ex h1), rfl, flat_ints b, ?_⟩
  exact hQ _ F H (Evl.Ex.refl _) k (by show V.bl (if false = true then _ else _) = _; rw [if_neg Bool.false_ne_true, inV_int])
theorem vo_notInT : VO (rIn K true) rInt (rTup K rInt) rBool notInG := fun c F cs H v w a b d k r1 r2 q Q hQ => by
  cases r1
  obtain ⟨p, vs, rfl, h1, h2⟩ := r2
  rw [rs_int h2] at h1
  cases q
  refine ⟨p, b.map V.int, rfl, .inr (ext_ k.ex h1), rfl, flat_ints b, ?_⟩
  exact hQ _ F H (Evl.Ex.refl _) k (by show V.bl (if true = true then _ else _) = _; rw [if_pos rfl, inV_int])
/-! pairs, triples -/
theorem em_tup2 {m1 : Option α} {m2 : Option β} (h1 : EM ra ta σ F cs m1) (h2 : EM rb tb σ F cs m2) : EM (rP2 K ra rb) (tTup (tCons ta (tCons tb tNil))) σ F cs (oP2 m1 m2) := fun d q c F1 H e k Q hQ => by
  obtain ⟨d1, d2⟩ := d
  obtain ⟨q1, q2⟩ := oP2_some q
  refine h1 d1 q1 c F1 H e k _ fun v F2 H2 e2 k2 r2 => h2 d2 q2 c F2 H2 (e.trans e2) k2 _ fun w F3 H3 e3 k3 r3 => ⟨by show 2 ≤ sizeLine; decide, fun p hp => ?_⟩
  have fp := k3.fnone hp
  exact hQ (.ref p) _ _ ((e2.trans e3).trans (Ex.new fp)) (k3.lay hp) ⟨p, v, w, rfl, upd_same, ra.up (e3.trans (Ex.new fp)) r2, rb.up (Ex.new fp) r3⟩
theorem em_tup3 {m1 : Option α} {m2 : Option β} {m3 : Option γ} (h1 : EM ra ta σ F cs m1) (h2 : EM rb tb σ F cs m2) (h3 : EM rc tc σ F cs m3) : EM (rP3 K ra rb rc) (tTup (tCons ta (tCons tb (tCons tc tNil)))) σ F cs (oP3 m1 m2 m3) := fun d q c F1 H e k Q hQ => by
  obtain ⟨q1, q2, q3⟩ := oP3_some q
  refine h1 _ q1 c F1 H e k _ fun v F2 H2 e2 k2 r2 => h2 _ q2 c F2 H2 (e.trans e2) k2 _ fun w F3 H3 e3 k3 r3 => h3 _ q3 c F3 H3 ((e.trans e2).trans e3) k3 _ fun x F4 H4 e4 k4 r4 => ⟨by show 3 ≤ sizeLine; decide, fun p hp => ?_⟩
  have fp := k4.fnone hp
  exact hQ (.ref p) _ _ (((e2.trans e3).trans e4).trans (Ex.new fp)) (k4.lay hp) ⟨p, v, w, x, rfl, upd_same, ra.up ((e3.trans e4).trans (Ex.new fp)) r2, rb.up (e4.trans (Ex.new fp)) r3, rc.up (Ex.new fp) r4⟩
theorem em_p2_0 {i : Int} (hi : i = 0 := by rfl) {m : Option (α × β)} (h : EM (rP2 K ra rb) ta σ F cs m) : EM ra (tOp (rIxT K) ta (tC (.int 0))) σ F cs (m.map fun z => z.1) := fun d q c F1 H e k Q hQ => by
  cases m with
  | none => cases q
  | some a =>
    cases q
    refine h a rfl c F1 H e k _ fun v F2 H2 e2 k2 r2 => ?_
    obtain ⟨p, v1, v2, rfl, h1, h2, h3⟩ := r2
    exact ⟨p, [v1, v2], 0, v1, rfl, rfl, ext_ k2.ex h1, rfl, hQ _ F2 H2 e2 k2 h2⟩
theorem em_p2_1 {m : Option (α × β)} (h : EM (rP2 K ra rb) ta σ F cs m) : EM rb (tOp (rIxT K) ta (tC (.int 1))) σ F cs (m.map fun z => z.2) := fun d q c F1 H e k Q hQ => by
  cases m with
  | none => cases q
  | some a =>
    cases q
    refine h a rfl c F1 H e k _ fun v F2 H2 e2 k2 r2 => ?_
    obtain ⟨p, v1, v2, rfl, h1, h2, h3⟩ := r2
    exact ⟨p, [v1, v2], 1, v2, rfl, rfl, ext_ k2.ex h1, rfl, hQ _ F2 H2 e2 k2 h3⟩
/-! what is told by isinstance -/
theorem is_tup_tuple : IsT K (rTup K ra) (.type "tuple") fun _ => true := fun F H v a e r => by
  obtain ⟨p, vs, rfl, h1, _⟩ := r
  exact ⟨_, .base (.tup (e _ _ h1)), kit_ty (by show _ = some true; decide +kernel)⟩
theorem is_lst_list : IsT K (rLst ra) (.type "list") fun _ => true := fun F H v a e r => by
  obtain ⟨p, vs, rfl, h1, _⟩ := r
  exact ⟨_, .base (.lst (e _ _ h1)), kit_ty (by show _ = some true; decide +kernel)⟩
theorem is_p2_tuple : IsT K (rP2 K ra rb) (.type "tuple") fun _ => true := fun F H v a e r => by
  obtain ⟨p, v1, v2, rfl, h1, _⟩ := r
  exact ⟨_, .base (.tup (e _ _ h1)), kit_ty (by show _ = some true; decide +kernel)⟩
/-! ends -/
theorem Cov.last1 (k : Cov c F (cs ++ [(p, x)]) H) : Cov c F [(p, x)] H := by
  have z := k.toHead
  rw [List.append_nil] at z
  exact z.keepN 1
/-- the first cell and the last -/
theorem Cov.mid1 {y : Addr × Cp} (k : Cov c F ((y :: cs) ++ [(p, x)]) H) : Cov c F [y, (p, x)] H := by
  have z : Cov c F ((p, x) :: (y :: cs ++ [])) H := k.toHead
  rw [List.append_nil] at z
  have z2 := z.keepN 2
  exact z2.perm (List.Perm.swap _ _ _)
theorem Cov.only (j : Nat) {y : Addr × Cp} (k : Cov c F cs H) (h : cs[j]? = some y) : Cov c F [y] H := by
  obtain ⟨p, x⟩ := y
  obtain ⟨l1, l2, rfl, _⟩ := Cov.split h
  exact k.toHead.keepN 1
theorem a_retC {i j : Nat} (hx : σ[i]? = some (some (.ref p))) (hj : cs[j]? = some (p, cLst ra ds)) (k : Cov c F cs H) (n : ∀ q F2 H2, Cov c F2 [(q, cLst ra ds)] H2 → D.rt (.ref q) H2) : tRet (tVar i) D σ H := ⟨_, hx, n p F H (k.only j hj)⟩
/-- a cell handed back, frozen -/
theorem a_retCz {i j : Nat} (hx : σ[i]? = some (some (.ref p))) (hj : cs[j]? = some (p, cLst ra ds)) (k : Cov c F cs H) (hn : c.H0 p = none) (n : ∀ v F2 H2, Cov c F2 [] H2 → (rLst ra).r F2 v ds → D.rt v H2) : tRet (tVar i) D σ H := by
  obtain ⟨f1, _, o, f3, vs, rfl, f4⟩ := k.at_ j hj
  exact ⟨_, hx, n (.ref p) _ H (k.frzAt j hj f3 hn).dropAll ⟨p, vs, rfl, upd_same, Rs.up (Ex.new f1) f4⟩⟩
end
end Mw
namespace Mw
open PySem L2
theorem gt2 {K : PySem.W.Frag} {i j : Nat} {v w : V} {a : Addr} {σ : L2.St} {H : Hp} {Q : L2.St → Hp → Prop} {σ1 : L2.St} (h : SqT K H a [v, w]) (e : (σ.set i (some v)).set j (some w) = σ1) (q : Q σ1 H) : gTup K 2 (gCons (gName i) (gCons (gName j) gNil)) (.ref a) σ H Q :=
  ⟨a, [v, w], rfl, h, rfl, v, [w], rfl, w, [], rfl, rfl, by rw [e]; exact q⟩
theorem gt3 {K : PySem.W.Frag} {i j l : Nat} {v w x : V} {a : Addr} {σ : L2.St} {H : Hp} {Q : L2.St → Hp → Prop} {σ1 : L2.St} (h : SqT K H a [v, w, x]) (e : ((σ.set i (some v)).set j (some w)).set l (some x) = σ1) (q : Q σ1 H) : gTup K 3 (gCons (gName i) (gCons (gName j) (gCons (gName l) gNil))) (.ref a) σ H Q :=
  ⟨a, [v, w, x], rfl, h, rfl, v, [w, x], rfl, w, [x], rfl, x, [], rfl, rfl, by rw [e]; exact q⟩
end Mw
namespace Mw
open PySem L2
open Evl (Ex)
theorem Cov.frzL {α : Type} {ra : Rp α} {c : Act} {F H : Hp} {cs : Cs} {p : Addr} {ds : List α} (k : Cov c F cs H) (j : Nat) (hj : cs[j]? = some (p, cLst ra ds)) (hn : c.H0 p = none) : ∃ F2, Ex F F2 ∧ Cov c F2 (cs.eraseIdx j) H ∧ (rLst ra).r F2 (.ref p) ds := by
  obtain ⟨f1, _, o, f3, vs, rfl, f4⟩ := k.at_ j hj
  exact ⟨_, Ex.new f1, k.frzAt j hj f3 hn, p, vs, rfl, upd_same, Rs.up (Ex.new f1) f4⟩
end Mw

set_option maxHeartbeats 2000000
/-! more of the layer: deep equality, tuples joined and cut, zip, enumerate, None or a value -/
namespace Mw
open PySem L2 PyProof RZ
open Evl (Ex)
/-! ### deep equality -/
class Sk (α : Type) where
  ok : α → Bool
instance : Sk Int := ⟨fun _ => true⟩
instance : Sk Bool := ⟨fun _ => true⟩
instance : Sk Unit := ⟨fun _ => true⟩
instance : Sk Str := ⟨fun x => PyData.canLay0 (.str x)⟩
instance {α : Type} [Sk α] : Sk (List α) := ⟨fun l => l.all Sk.ok⟩
instance {α β : Type} [Sk α] [Sk β] : Sk (α × β) := ⟨fun p => Sk.ok p.1 && Sk.ok p.2⟩
instance {α : Type} [Sk α] : Sk (Option α) := ⟨fun o => match o with
  | none => true
  | some a => Sk.ok a⟩
structure Dq (K : PySem.W.Frag) {α : Type} [DecidableEq α] [Sk α] (ra : Rp α) : Type where
  enc : α → PyData
  dep : Nat
  dp : ∀ {H v a}, ra.r H v a → Dp K H v (enc a)
  lay : ∀ a, Sk.ok a = true → (enc a).canLay0 = true
  dpt : ∀ a, (enc a).depth ≤ dep
  inj : ∀ a b, PyData.eqv (enc a) (enc b) = decide (a = b)
section
variable {K : PySem.W.Frag} {α β γ : Type} [DecidableEq α] [Sk α] [DecidableEq β] [Sk β] [DecidableEq γ] [Sk γ] {ra : Rp α} {rb : Rp β} {rc : Rp γ}
def dq_int : Dq K rInt := ⟨.int, 0, fun h => by cases h; exact .int _, fun _ _ => rfl, fun _ => Nat.le_refl _, fun a b => by
  show (a == b) = _
  by_cases h : a = b
  · subst h; simp
  · simp [h]⟩
def dq_bool : Dq K rBool := ⟨.bool, 0, fun h => by cases h; exact .bl _, fun _ _ => rfl, fun _ => Nat.le_refl _, fun a b => by
  show (a == b) = _
  cases a <;> cases b <;> rfl⟩
def dq_str : Dq K rStr := ⟨.str, 0, fun h => by cases h; exact .str _, fun _ h => h, fun _ => Nat.le_refl _, fun a b => by
  show (a == b) = _
  by_cases h : a = b
  · subst h; simp
  · rw [decide_eq_false h]
    simpa using h⟩
theorem dpAll (D : Dq K ra) {H : Hp} : ∀ {vs : List V} {ds : List α}, Rs ra H vs ds → DpAll K H vs (ds.map D.enc)
  | _, _, .nil => .nil
  | _, _, .cons h t => .cons (D.dp h) (dpAll D t)
theorem layAll (D : Dq K ra) : ∀ ds : List α, ds.all Sk.ok = true → PyData.canLayAll0 (ds.map D.enc) = true
  | [], _ => rfl
  | a :: l, h => by
    rw [List.all_cons, Bool.and_eq_true] at h
    rw [List.map_cons, PyData.canLayAll0, D.lay a h.1, layAll D l h.2] <;> rfl
theorem dptAll (D : Dq K ra) : ∀ ds : List α, PyData.depthAll (ds.map D.enc) ≤ D.dep
  | [] => Nat.zero_le _
  | a :: l => by
    rw [List.map_cons, PyData.depthAll]
    exact Nat.max_le.mpr ⟨D.dpt a, dptAll D l⟩
theorem injAll (D : Dq K ra) : ∀ a b : List α, PyData.eqvAll (a.map D.enc) (b.map D.enc) = decide (a = b)
  | [], [] => rfl
  | [], _ :: _ => rfl
  | _ :: _, [] => rfl
  | a :: l, b :: m => by
    rw [List.map_cons, List.map_cons, PyData.eqvAll, D.inj, injAll D l m]
    by_cases h1 : a = b <;> by_cases h2 : l = m <;> simp [h1, h2]
def dq_tup (D : Dq K ra) : Dq K (rTup K ra) := ⟨fun l => .tuple (l.map D.enc), D.dep + 1, fun h => by
  obtain ⟨a, vs, rfl, h1, h2⟩ := h
  exact .tup (SqT.of h1) (dpAll D h2), fun l h => layAll D l h, fun l => by
  rw [PyData.depth]
  exact Nat.succ_le_succ (dptAll D l), fun a b => injAll D a b⟩
def dq_lst (D : Dq K ra) : Dq K (rLst ra) := ⟨fun l => .list (l.map D.enc), D.dep + 1, fun h => by
  obtain ⟨a, vs, rfl, h1, h2⟩ := h
  exact .lst (SqL.of h1) (dpAll D h2), fun l h => layAll D l h, fun l => by
  rw [PyData.depth]
  exact Nat.succ_le_succ (dptAll D l), fun a b => injAll D a b⟩
def dq_lsW (D : Dq K ra) : Dq K (rLsW K ra) := ⟨fun l => .list (l.map D.enc), D.dep + 1, fun h => by
  obtain ⟨a, vs, rfl, h1, h2⟩ := h
  exact .lst h1 (dpAll D h2), fun l h => layAll D l h, fun l => by
  rw [PyData.depth]
  exact Nat.succ_le_succ (dptAll D l), fun a b => injAll D a b⟩
def dq_p2 (D : Dq K ra) (E : Dq K rb) : Dq K (rP2 K ra rb) := ⟨fun p => .tuple [D.enc p.1, E.enc p.2], max D.dep E.dep + 1, fun h => by
  obtain ⟨a, v1, v2, rfl, h1, h2, h3⟩ := h
  exact .tup (SqT.of h1) (.cons (D.dp h2) (.cons (E.dp h3) .nil)), fun p h => by
  have h : (Sk.ok p.1 && Sk.ok p.2) = true := h
  rw [Bool.and_eq_true] at h
  rw [PyData.canLay0, PyData.canLayAll0, PyData.canLayAll0, D.lay _ h.1, E.lay _ h.2] <;> rfl, fun p => by
  have h1 := D.dpt p.1
  have h2 := E.dpt p.2
  rw [PyData.depth, PyData.depthAll, PyData.depthAll, PyData.depthAll]
  omega, fun a b => by
  rw [PyData.eqv, PyData.eqvAll, PyData.eqvAll, PyData.eqvAll, D.inj, E.inj]
  obtain ⟨a1, a2⟩ := a
  obtain ⟨b1, b2⟩ := b
  by_cases h1 : a1 = b1 <;> by_cases h2 : a2 = b2 <;> simp [h1, h2]⟩
def dq_p3 (D : Dq K ra) (E : Dq K rb) (G : Dq K rc) : Dq K (rP3 K ra rb rc) := ⟨fun p => .tuple [D.enc p.1, E.enc p.2.1, G.enc p.2.2], max D.dep (max E.dep G.dep) + 1, fun h => by
  obtain ⟨a, v1, v2, v3, rfl, h1, h2, h3, h4⟩ := h
  exact .tup (SqT.of h1) (.cons (D.dp h2) (.cons (E.dp h3) (.cons (G.dp h4) .nil))), fun p h => by
  have h : (Sk.ok p.1 && (Sk.ok p.2.1 && Sk.ok p.2.2)) = true := h
  rw [Bool.and_eq_true, Bool.and_eq_true] at h
  rw [PyData.canLay0, PyData.canLayAll0, PyData.canLayAll0, PyData.canLayAll0, D.lay _ h.1, E.lay _ h.2.1, G.lay _ h.2.2] <;> rfl, fun p => by
  have h1 := D.dpt p.1
  have h2 := E.dpt p.2.1
  have h3 := G.dpt p.2.2
  rw [PyData.depth, PyData.depthAll, PyData.depthAll, PyData.depthAll, PyData.depthAll]
  omega, fun a b => by
  rw [PyData.eqv, PyData.eqvAll, PyData.eqvAll, PyData.eqvAll, PyData.eqvAll, D.inj, E.inj, G.inj]
  obtain ⟨a1, a2, a3⟩ := a
  obtain ⟨b1, b2, b3⟩ := b
  by_cases h1 : a1 = b1 <;> by_cases h2 : a2 = b2 <;> by_cases h3 : a3 = b3 <;> simp [h1, h2, h3]⟩
def dq_opt (D : Dq K ra) (n : ∀ a, PyData.eqv .none (D.enc a) = false ∧ PyData.eqv (D.enc a) .none = false) : Dq K (rOpt ra) := ⟨fun o => match o with
  | none => .none
  | some a => D.enc a, D.dep, fun {H v a} h => match a, h with
  | none, h => by
    have h : v = .non := h
    subst h
    exact .non
  | some a, h => D.dp h.2, fun a h => match a, h with
  | none, h => rfl
  | some a, h => D.lay a h, fun a => match a with
  | none => Nat.zero_le _
  | some a => D.dpt a, fun a b => match a, b with
  | none, none => rfl
  | none, some b => (n b).1
  | some a, none => (n a).2
  | some a, some b => by
    show PyData.eqv (D.enc a) (D.enc b) = _
    rw [D.inj]
    by_cases h : a = b <;> simp [h]⟩
def eqDG (a b : α) : Option Bool := if Sk.ok a = true ∧ Sk.ok b = true then some (decide (a = b)) else none
def neDG (a b : α) : Option Bool := if Sk.ok a = true ∧ Sk.ok b = true then some (!decide (a = b)) else none
def inDG (a : α) (l : List α) : Option Bool := if Sk.ok a = true ∧ Sk.ok l = true then some (decide (a ∈ l)) else none
def notInDG (a : α) (l : List α) : Option Bool := if Sk.ok a = true ∧ Sk.ok l = true then some (!decide (a ∈ l)) else none
theorem dp_ex {H H' : Hp} (e : Ex H H') (D : Dq K ra) {v : V} {a : α} (r : ra.r H v a) : Dp K H' v (D.enc a) := D.dp (ra.up e r)
theorem Dq.shaped (D : Dq K ra) (hd : D.dep ≤ 64) {a : α} (h : Sk.ok a = true) : SeqAt.shaped (D.enc a) = true := by
  unfold SeqAt.shaped
  rw [D.lay a h, decide_eq_true (Nat.le_trans (D.dpt a) hd)] <;> rfl
theorem vo_eqD (D : Dq K ra) (hd : D.dep ≤ 64) : VO (rEqD K) ra ra rBool eqDG := fun c F cs H v w a b d k r1 r2 q Q hQ => by
  unfold eqDG at q
  split at q
  · rename_i g
    cases q
    exact ⟨D.enc a, D.enc b, dp_ex k.ex D r1, dp_ex k.ex D r2, D.shaped hd g.1, D.shaped hd g.2, hQ _ F H (Evl.Ex.refl _) k (by rw [D.inj] <;> rfl)⟩
  · cases q
theorem vo_neD (D : Dq K ra) (hd : D.dep ≤ 64) : VO (rNeD K) ra ra rBool neDG := fun c F cs H v w a b d k r1 r2 q Q hQ => by
  unfold neDG at q
  split at q
  · rename_i g
    cases q
    exact ⟨D.enc a, D.enc b, dp_ex k.ex D r1, dp_ex k.ex D r2, D.shaped hd g.1, D.shaped hd g.2, hQ _ F H (Evl.Ex.refl _) k (by rw [D.inj] <;> rfl)⟩
  · cases q
theorem anyD (D : Dq K ra) (a : α) : ∀ l : List α, ((l.map D.enc).any fun z => PyData.eqv z (D.enc a)) = decide (a ∈ l)
  | [] => rfl
  | b :: l => by
    rw [List.map_cons, List.any_cons, anyD D a l, D.inj]
    by_cases h1 : b = a
    · subst h1; simp
    · have h3 : ¬ a = b := fun e => h1 e.symm
      by_cases h2 : a ∈ l <;> simp [h1, h2, h3]
theorem lsD (D : Dq K ra) (hd : D.dep ≤ 63) {l : List α} (h : Sk.ok l = true) : SeqAt.shaped (.list (l.map D.enc)) = true := (dq_lst D).shaped (show D.dep + 1 ≤ 64 by omega) h
/-- x in [..] -/
theorem em_inD {te tb : TE} {σ : L2.St} {F : Hp} {cs : Cs} {ma : Option α} {ml : Option (List α)} (D : Dq K ra) (hd : D.dep ≤ 63) (h : EM ra te σ F cs ma) (hl : EL K ra tb σ F cs ml) : EM rBool (tOp (rInD K) te tb) σ F cs (o2 inDG ma ml) := fun d q c F1 H e k Q hQ => by
  obtain ⟨a, b, q1, q2, q3⟩ := o2_some q
  refine h a q1 c F1 H e k _ fun v F2 H2 e2 k2 r2 => hl b q2 c F2 H2 (e.trans e2) k2 _ fun w F3 H3 e3 k3 r3 => ?_
  obtain ⟨p, vs, rfl, h1, h2⟩ := r3.see k3
  unfold inDG at q3
  split at q3
  · rename_i g
    cases q3
    exact ⟨D.enc a, b.map D.enc, dp_ex (e3.trans k3.ex) D r2, .lst h1 (dpAll D (Rs.up k3.ex h2)), D.shaped (by omega) g.1, lsD D hd g.2, hQ _ F3 H3 (e2.trans e3) k3 (by rw [anyD] <;> rfl)⟩
  · cases q3
theorem em_notInD {te tb : TE} {σ : L2.St} {F : Hp} {cs : Cs} {ma : Option α} {ml : Option (List α)} (D : Dq K ra) (hd : D.dep ≤ 63) (h : EM ra te σ F cs ma) (hl : EL K ra tb σ F cs ml) : EM rBool (tOp (rNotInD K) te tb) σ F cs (o2 notInDG ma ml) := fun d q c F1 H e k Q hQ => by
  obtain ⟨a, b, q1, q2, q3⟩ := o2_some q
  refine h a q1 c F1 H e k _ fun v F2 H2 e2 k2 r2 => hl b q2 c F2 H2 (e.trans e2) k2 _ fun w F3 H3 e3 k3 r3 => ?_
  obtain ⟨p, vs, rfl, h1, h2⟩ := r3.see k3
  unfold notInDG at q3
  split at q3
  · rename_i g
    cases q3
    exact ⟨D.enc a, b.map D.enc, dp_ex (e3.trans k3.ex) D r2, .lst h1 (dpAll D (Rs.up k3.ex h2)), D.shaped (by omega) g.1, lsD D hd g.2, hQ _ F3 H3 (e2.trans e3) k3 (by rw [anyD] <;> rfl)⟩
  · cases q3
end
section
variable {α β γ : Type} {ra : Rp α} {rb : Rp β} {σ : L2.St} {F H : Hp} {cs : Cs} {K : PySem.W.Frag} {te ta tb : TE}
/-! ### tuples joined, cut, repeated -/
theorem em_catT {m1 m2 : Option (List α)} (h1 : EM (rTup K ra) ta σ F cs m1) (h2 : EM (rTup K ra) tb σ F cs m2) : EM (rTup K ra) (tOp (rCatA K) ta tb) σ F cs (o2 catG m1 m2) := fun d q c F1 H e k Q hQ => by
  obtain ⟨a, b, q1, q2, q3⟩ := o2_some q
  obtain ⟨rfl, hz⟩ := catG_some q3
  refine h1 a q1 c F1 H e k _ fun v F2 H2 e2 k2 r2 => h2 b q2 c F2 H2 (e.trans e2) k2 _ fun w F3 H3 e3 k3 r3 => ?_
  obtain ⟨p, vs, rfl, h3, h4⟩ := (rTup K ra).up e3 r2
  obtain ⟨p', ws, rfl, h5, h6⟩ := r3
  have l1 := h4.length
  have l2 := h6.length
  refine ⟨p, p', vs, ws, rfl, rfl, ext_ k3.ex h3, ext_ k3.ex h5, ?_, fun ev => ?_, fun _ ew => ?_, fun _ _ l hl => ?_⟩
  · rw [l1, l2]; exact sz_ok hz
  · have ea : a = [] := List.length_eq_zero_iff.mp (by rw [← l1, ev] <;> rfl)
    subst ea
    exact hQ _ F3 H3 (e2.trans e3) k3 ⟨p', ws, rfl, h5, h6⟩
  · have eb : b = [] := List.length_eq_zero_iff.mp (by rw [← l2, ew] <;> rfl)
    subst eb
    rw [List.append_nil] at hQ
    exact hQ _ F3 H3 (e2.trans e3) k3 ⟨p, vs, rfl, h3, h4⟩
  · exact hQ (.ref l) _ _ ((e2.trans e3).trans (Ex.new (k3.fnone hl))) (k3.lay hl) ⟨l, _, rfl, upd_same, Rs.up (Ex.new (k3.fnone hl)) (h4.append h6)⟩
/-- t[lo:hi]: the whole is t itself; told only where it is not the whole -/
def cutTG {α : Type} (l : List α) (lo hi : Option Int) : Option (List α) := if HT.sIx l.length 0 lo = 0 ∧ HT.sIx l.length l.length hi = l.length then none else some (cut l lo hi)
def oCutT {α : Type} (m : Option (List α)) (lo hi : Option (Option Int)) : Option (List α) := m.bind fun l => lo.bind fun a => hi.bind fun b => cutTG l a b
theorem em_sliceT {tl th : TO} {ma : Option (List α)} {lo hi : Option (Option Int)} (ha : EM (rTup K ra) ta σ F cs ma) (h1 : EO tl σ F cs lo) (h2 : EO th σ F cs hi) : EM (rTup K ra) (tSl (rSlT K) ta tl th) σ F cs (oCutT ma lo hi) := fun d q c F1 H e k Q hQ => by
  obtain ⟨l, q1, q⟩ := bind_some q
  obtain ⟨a, q2, q⟩ := bind_some q
  obtain ⟨b, q3, q⟩ := bind_some q
  unfold cutTG at q
  split at q
  · cases q
  rename_i g
  cases q
  refine ha l q1 c F1 H e k _ fun v F2 H2 e2 k2 r2 => h1 a q2 c F2 H2 (e.trans e2) k2 _ fun F3 H3 e3 k3 => h2 b q3 c F3 H3 ((e.trans e2).trans e3) k3 _ fun F4 H4 e4 k4 => ?_
  obtain ⟨p, vs, rfl, h3, h4⟩ := (rTup K ra).up (e3.trans e4) r2
  refine ⟨p, vs, rfl, ext_ k4.ex h3, by rw [h4.length]; exact g, fun l' hl => ?_⟩
  have fp := k4.fnone hl
  exact hQ (.ref l') _ _ (((e2.trans e3).trans e4).trans (Ex.new fp)) (k4.lay hl) ⟨l', _, rfl, upd_same, Rs.up (Ex.new fp) (h4.cut a b)⟩
def repTG {α : Type} (a : List α) (k : Int) : Option (List α) := if 2 ≤ k ∧ k ≤ 1000 ∧ a.length ≤ 1000 ∧ 0 < a.length then some (List.replicate k.toNat a).flatten else none
theorem em_repT {m1 : Option (List α)} {mi : Option Int} (ha : EM (rTup K ra) ta σ F cs m1) (hb : EM rInt tb σ F cs mi) : EM (rTup K ra) (tOp (rRepT K) ta tb) σ F cs (o2 repTG m1 mi) := fun d q c F1 H e k Q hQ => by
  obtain ⟨a, b, q1, q2, q3⟩ := o2_some q
  unfold repTG at q3
  split at q3
  · rename_i g
    cases q3
    refine ha a q1 c F1 H e k _ fun v F2 H2 e2 k2 r2 => hb b q2 c F2 H2 (e.trans e2) k2 _ fun w F3 H3 e3 k3 r3 => ?_
    cases r3
    obtain ⟨p, vs, rfl, h3, h4⟩ := (rTup K ra).up e3 r2
    have l1 := h4.length
    refine ⟨p, b, vs, rfl, rfl, ext_ k3.ex h3, fun z => ?_, g.1, g.2.1, by omega, fun l hl => ?_⟩
    · rw [z] at l1
      have : a.length = 0 := l1.symm
      omega
    · have fp := k3.fnone hl
      exact hQ (.ref l) _ _ ((e2.trans e3).trans (Ex.new fp)) (k3.lay hl) ⟨l, _, rfl, upd_same, Rs.up (Ex.new fp) (h4.rep _)⟩
  · cases q3
/-! ### max of a list of whole numbers -/
def maxL : List Int → Option Int
  | [] => none
  | a :: l => some (l.foldl max a)
theorem foldl_max (l : List Int) : ∀ a : Int, (∀ y ∈ a :: l, y ≤ l.foldl max a) ∧ l.foldl max a ∈ a :: l := by
  induction l with
  | nil => intro a; exact ⟨fun y hy => by simp at hy; subst hy; exact Int.le_refl _, List.mem_cons_self⟩
  | cons b l ih =>
    intro a
    obtain ⟨h1, h2⟩ := ih (max a b)
    have hm := h1 _ List.mem_cons_self
    refine ⟨fun y hy => ?_, ?_⟩
    · show y ≤ l.foldl max (max a b)
      rcases List.mem_cons.mp hy with rfl | hy
      · omega
      · rcases List.mem_cons.mp hy with rfl | hy
        · omega
        · exact h1 y (List.mem_cons_of_mem _ hy)
    · show l.foldl max (max a b) ∈ a :: b :: l
      rcases List.mem_cons.mp h2 with h | h
      · rw [h]
        by_cases q : a ≤ b
        · rw [Int.max_eq_right q]; simp
        · rw [Int.max_eq_left (by omega)]; simp
      · exact List.mem_cons_of_mem _ (List.mem_cons_of_mem _ h)
theorem em_maxL {m : Option (List Int)} (h : EL K rInt te σ F cs m) : EM rInt (tCB (rMax K) (tCons te tNil)) σ F cs (o1 maxL m) := fun d q c F1 H e k Q hQ => by
  obtain ⟨l, q1, q2⟩ := o1_some q
  refine h l q1 c F1 H e k _ fun v F2 H2 e2 k2 r2 => ?_
  obtain ⟨a, vs, rfl, h1, h2⟩ := r2.see k2
  rw [rs_int h2] at h1
  cases l with
  | nil => cases q2
  | cons x l =>
    cases q2
    refine ⟨a, x :: l, rfl, h1, Nat.succ_pos _, fun m hm hy => ?_⟩
    obtain ⟨g1, g2⟩ := foldl_max l x
    have e1 : m = l.foldl max x := Int.le_antisymm (g1 m hm) (hy _ g2)
    exact hQ _ F2 H2 e2 k2 (by rw [e1] <;> rfl)
/-! ### None or a value -/
def isN {α : Type} (o : Option α) (_ : Option Unit) : Option Bool := some o.isNone
def notN {α : Type} (o : Option α) (_ : Option Unit) : Option Bool := some o.isSome
theorem em_isN {m : Option (Option α)} (h : EM (rOpt ra) te σ F cs m) : EM rBool (tOp (fun x y H Q => y = .non ∧ Q (.bl (decide (x = .non))) H) te (tC .non)) σ F cs (m.map Option.isNone) := fun d q c F1 H e k Q hQ => by
  cases m with
  | none => cases q
  | some o =>
    cases q
    refine h o rfl c F1 H e k _ fun v F2 H2 e2 k2 r2 => ⟨rfl, ?_⟩
    refine hQ _ F2 H2 e2 k2 ?_
    cases o with
    | none =>
      have r2 : v = .non := r2
      rw [decide_eq_true r2] <;> rfl
    | some a => rw [decide_eq_false r2.1] <;> rfl
theorem em_notN {m : Option (Option α)} (h : EM (rOpt ra) te σ F cs m) : EM rBool (tOp (fun x y H Q => y = .non ∧ Q (.bl (!decide (x = .non))) H) te (tC .non)) σ F cs (m.map Option.isSome) := fun d q c F1 H e k Q hQ => by
  cases m with
  | none => cases q
  | some o =>
    cases q
    refine h o rfl c F1 H e k _ fun v F2 H2 e2 k2 r2 => ⟨rfl, ?_⟩
    refine hQ _ F2 H2 e2 k2 ?_
    cases o with
    | none =>
      have r2 : v = .non := r2
      rw [decide_eq_true r2] <;> rfl
    | some a => rw [decide_eq_false r2.1] <;> rfl
/-- a value that is not None here -/
theorem em_unO {m : Option (Option α)} (h : EM (rOpt ra) te σ F cs m) : EM ra te σ F cs (m.bind fun o => o) := fun d q c F1 H e k Q hQ => by
  obtain ⟨o, q1, q2⟩ := bind_some q
  subst q2
  exact h _ q1 c F1 H e k Q fun v F2 H2 e2 k2 r2 => hQ v F2 H2 e2 k2 r2.2
/-! ### zip, enumerate -/
theorem zip_get {l : List α} {m : List β} : ∀ {i : Nat} {d : α × β}, (l.zip m)[i]? = some d → l[i]? = some d.1 ∧ m[i]? = some d.2 := by
  intro i d h
  rw [List.getElem?_zip_eq_some] at h
  exact h
theorem goes_zipL {a b : Addr} {vs ws : List V} {l : List α} {m : List β} (h1 : SqL K F a vs) (h2 : SqL K F b ws) (r1 : Rs ra F vs l) (r2 : Rs rb F ws m) : Goes (Itz K a b) F (rP2 K ra rb) (l.zip m) where
  go := fun i d hd c F' cs H e k => by
    obtain ⟨d1, d2⟩ := zip_get hd
    obtain ⟨v, g1, g2⟩ := rs_get r1 d1
    obtain ⟨w, g3, g4⟩ := rs_get r2 d2
    refine ⟨⟨vs, ws, v, w, Evl.ex_l (e.trans k.ex) h1, Evl.ex_l (e.trans k.ex) h2, g1, g3⟩, fun x H' y => ?_⟩
    obtain ⟨T, x', y', rfl, hT, rfl, y3, y4⟩ := y
    have z1 := y3 vs (Evl.ex_l (e.trans k.ex) h1)
    have z2 := y4 ws (Evl.ex_l (e.trans k.ex) h2)
    rw [g1] at z1
    rw [g3] at z2
    cases z1
    cases z2
    have fp := k.fnone hT
    exact ⟨_, Ex.new fp, fun c2 cs2 k2 => k2.lay hT, ⟨T, v, w, rfl, upd_same, ra.up (e.trans (Ex.new fp)) g2, rb.up (e.trans (Ex.new fp)) g4⟩⟩
  stop := fun c F' cs H e k => ⟨vs, ws, Evl.ex_l (e.trans k.ex) h1, Evl.ex_l (e.trans k.ex) h2, by
    rw [r1.length, r2.length, List.length_zip]; omega⟩
theorem goes_zipT {a b : Addr} {vs ws : List V} {l : List α} {m : List β} (h1 : SqT K F a vs) (h2 : SqT K F b ws) (r1 : Rs ra F vs l) (r2 : Rs rb F ws m) : Goes (ItzT K a b) F (rP2 K ra rb) (l.zip m) where
  go := fun i d hd c F' cs H e k => by
    obtain ⟨d1, d2⟩ := zip_get hd
    obtain ⟨v, g1, g2⟩ := rs_get r1 d1
    obtain ⟨w, g3, g4⟩ := rs_get r2 d2
    refine ⟨⟨vs, ws, v, w, Evl.ex_t (e.trans k.ex) h1, Evl.ex_t (e.trans k.ex) h2, g1, g3⟩, fun x H' y => ?_⟩
    obtain ⟨T, x', y', rfl, hT, rfl, y3, y4⟩ := y
    have z1 := y3 vs (Evl.ex_t (e.trans k.ex) h1)
    have z2 := y4 ws (Evl.ex_t (e.trans k.ex) h2)
    rw [g1] at z1
    rw [g3] at z2
    cases z1
    cases z2
    have fp := k.fnone hT
    exact ⟨_, Ex.new fp, fun c2 cs2 k2 => k2.lay hT, ⟨T, v, w, rfl, upd_same, ra.up (e.trans (Ex.new fp)) g2, rb.up (e.trans (Ex.new fp)) g4⟩⟩
  stop := fun c F' cs H e k => ⟨vs, ws, Evl.ex_t (e.trans k.ex) h1, Evl.ex_t (e.trans k.ex) h2, by
    rw [r1.length, r2.length, List.length_zip]; omega⟩
def zipG {α β : Type} (l : List α) (m : List β) : Option (List (α × β)) := some (l.zip m)
theorem ei_zipT {m1 : Option (List α)} {m2 : Option (List β)} (h1 : EM (rTup K ra) ta σ F cs m1) (h2 : EM (rTup K rb) tb σ F cs m2) : EI (rP2 K ra rb) (iZipA K (tCons ta (tCons tb tNil))) σ F cs (o2 zipG m1 m2) := fun ds q c F1 H e k R hR => by
  obtain ⟨a, b, q1, q2, q3⟩ := o2_some q
  cases q3
  refine h1 a q1 c F1 H e k _ fun v F2 H2 e2 k2 r2 => h2 b q2 c F2 H2 (e.trans e2) k2 _ fun w F3 H3 e3 k3 r3 => ?_
  obtain ⟨p, vs, rfl, h3, h4⟩ := (rTup K ra).up e3 r2
  obtain ⟨p', ws, rfl, h5, h6⟩ := r3
  exact ⟨p, p', vs, ws, rfl, .inr ⟨ext_ k3.ex h3, ext_ k3.ex h5, hR _ F3 H3 (e2.trans e3) k3 (goes_zipT (SqT.of h3) (SqT.of h5) h4 h6)⟩⟩
theorem ei_zipL {m1 : Option (List α)} {m2 : Option (List β)} (h1 : EM (rLst ra) ta σ F cs m1) (h2 : EM (rLst rb) tb σ F cs m2) : EI (rP2 K ra rb) (iZipA K (tCons ta (tCons tb tNil))) σ F cs (o2 zipG m1 m2) := fun ds q c F1 H e k R hR => by
  obtain ⟨a, b, q1, q2, q3⟩ := o2_some q
  cases q3
  refine h1 a q1 c F1 H e k _ fun v F2 H2 e2 k2 r2 => h2 b q2 c F2 H2 (e.trans e2) k2 _ fun w F3 H3 e3 k3 r3 => ?_
  obtain ⟨p, vs, rfl, h3, h4⟩ := (rLst ra).up e3 r2
  obtain ⟨p', ws, rfl, h5, h6⟩ := r3
  exact ⟨p, p', vs, ws, rfl, .inl ⟨SqL.of (k3.ex _ _ h3), SqL.of (k3.ex _ _ h5), hR _ F3 H3 (e2.trans e3) k3 (goes_zipL (SqL.of h3) (SqL.of h5) h4 h6)⟩⟩
end
section
variable {α β γ δ : Type} {ra : Rp α} {rb : Rp β} {rc : Rp γ} {σ : L2.St} {F H : Hp} {cs : Cs} {K : PySem.W.Frag} {te ta tb : TE} {tz : TS} {D : Ends} {c : Act}
theorem un65 {k : Nat} {A : Around} (r : Room k A) : A.units + 65 < cLine := by have := r.un; omega
/-! a, b = e -/
theorem a_unp2 {i j : Nat} {d : α × β} {m : Option (α × β)} (h : EM (rP2 K ra rb) te σ F cs m) (hm : m = some d) (k : Cov c F cs H) (n : ∀ v w F2 H2, Ex F F2 → Cov c F2 cs H2 → ra.r F2 v d.1 → rb.r F2 w d.2 → D.nx ((σ.set i (some v)).set j (some w)) H2) : tAsg te (gTup K 2 (gCons (gName i) (gCons (gName j) gNil))) D σ H :=
  h d hm c F H (Evl.Ex.refl _) k _ fun v F2 H2 e2 k2 r2 => by
    obtain ⟨a, v1, v2, rfl, h1, h2, h3⟩ := r2
    exact ⟨a, [v1, v2], rfl, ext_ k2.ex h1, rfl, v1, [v2], rfl, v2, [], rfl, rfl, n v1 v2 F2 H2 e2 k2 h2 h3⟩
theorem q_unp2 {i j : Nat} {d : α × β} {m : Option (α × β)} (h : EM (rP2 K ra rb) te σ F cs m) (hm : m = some d) (k : Cov c F cs H) (n : ∀ v w F2 H2, Ex F F2 → Cov c F2 cs H2 → ra.r F2 v d.1 → rb.r F2 w d.2 → tz D ((σ.set i (some v)).set j (some w)) H2) : tSeq (tAsg te (gTup K 2 (gCons (gName i) (gCons (gName j) gNil)))) tz D σ H := a_unp2 (D := { D with nx := tz D }) h hm k n
theorem a_unp2S {cs' : δ → Cs} {g : δ} {i j : Nat} {d : α × β} {m : Option ((α × β) × δ)} (h : SM (rP2 K ra rb) te σ F cs m cs') (hm : m = some (d, g)) (k : Cov c F cs H) (n : ∀ v w F2 H2, Ex F F2 → Cov c F2 (cs' g) H2 → ra.r F2 v d.1 → rb.r F2 w d.2 → D.nx ((σ.set i (some v)).set j (some w)) H2) : tAsg te (gTup K 2 (gCons (gName i) (gCons (gName j) gNil))) D σ H :=
  h d g hm c F H (Evl.Ex.refl _) k _ fun v F2 H2 e2 k2 r2 => by
    obtain ⟨a, v1, v2, rfl, h1, h2, h3⟩ := r2
    exact ⟨a, [v1, v2], rfl, ext_ k2.ex h1, rfl, v1, [v2], rfl, v2, [], rfl, rfl, n v1 v2 F2 H2 e2 k2 h2 h3⟩
theorem q_unp2S {cs' : δ → Cs} {g : δ} {i j : Nat} {d : α × β} {m : Option ((α × β) × δ)} (h : SM (rP2 K ra rb) te σ F cs m cs') (hm : m = some (d, g)) (k : Cov c F cs H) (n : ∀ v w F2 H2, Ex F F2 → Cov c F2 (cs' g) H2 → ra.r F2 v d.1 → rb.r F2 w d.2 → tz D ((σ.set i (some v)).set j (some w)) H2) : tSeq (tAsg te (gTup K 2 (gCons (gName i) (gCons (gName j) gNil)))) tz D σ H := a_unp2S (D := { D with nx := tz D }) h hm k n
theorem a_unp3 {i j l : Nat} {d : α × β × γ} {m : Option (α × β × γ)} (h : EM (rP3 K ra rb rc) te σ F cs m) (hm : m = some d) (k : Cov c F cs H) (n : ∀ v w x F2 H2, Ex F F2 → Cov c F2 cs H2 → ra.r F2 v d.1 → rb.r F2 w d.2.1 → rc.r F2 x d.2.2 → D.nx (((σ.set i (some v)).set j (some w)).set l (some x)) H2) : tAsg te (gTup K 3 (gCons (gName i) (gCons (gName j) (gCons (gName l) gNil)))) D σ H :=
  h d hm c F H (Evl.Ex.refl _) k _ fun v F2 H2 e2 k2 r2 => by
    obtain ⟨a, v1, v2, v3, rfl, h1, h2, h3, h4⟩ := r2
    exact ⟨a, [v1, v2, v3], rfl, ext_ k2.ex h1, rfl, v1, [v2, v3], rfl, v2, [v3], rfl, v3, [], rfl, rfl, n v1 v2 v3 F2 H2 e2 k2 h2 h3 h4⟩
theorem q_unp3 {i j l : Nat} {d : α × β × γ} {m : Option (α × β × γ)} (h : EM (rP3 K ra rb rc) te σ F cs m) (hm : m = some d) (k : Cov c F cs H) (n : ∀ v w x F2 H2, Ex F F2 → Cov c F2 cs H2 → ra.r F2 v d.1 → rb.r F2 w d.2.1 → rc.r F2 x d.2.2 → tz D (((σ.set i (some v)).set j (some w)).set l (some x)) H2) : tSeq (tAsg te (gTup K 3 (gCons (gName i) (gCons (gName j) (gCons (gName l) gNil))))) tz D σ H := a_unp3 (D := { D with nx := tz D }) h hm k n
/-! a pair made while the cell is followed -/
theorem sm_tup2 {cs : δ → Cs} {s : δ} {m1 : Option (α × δ)} {m2 : δ → Option (β × δ)} (h1 : SM ra ta σ F (cs s) m1 cs) (h2 : ∀ s, SM rb tb σ F (cs s) (m2 s) cs) : SM (rP2 K ra rb) (tTup (tCons ta (tCons tb tNil))) σ F (cs s) (s2 (fun a b s => some ((a, b), s)) m1 m2) cs := fun d g q c F1 H e k Q hQ => by
  unfold s2 at q
  obtain ⟨a, g1, q1, q⟩ := sC_some q
  obtain ⟨b, g2, q2, q⟩ := sC_some q
  cases q
  refine h1 a g1 q1 c F1 H e k _ fun v F2 H2 e2 k2 r2 => h2 g1 b _ q2 c F2 H2 (e.trans e2) k2 _ fun w F3 H3 e3 k3 r3 => ⟨by show 2 ≤ sizeLine; decide, fun p hp => ?_⟩
  have fp := k3.fnone hp
  exact hQ (.ref p) _ _ ((e2.trans e3).trans (Ex.new fp)) (k3.lay hp) ⟨p, v, w, rfl, upd_same, ra.up (e3.trans (Ex.new fp)) r2, rb.up (Ex.new fp) r3⟩
/-- a, b = e1, e2, the cell followed -/
theorem a_parS {cs : δ → Cs} {s g : δ} {i j : Nat} {d : α × β} {m1 : Option (α × δ)} {m2 : δ → Option (β × δ)} (h1 : SM ra ta σ F (cs s) m1 cs) (h2 : ∀ s, SM rb tb σ F (cs s) (m2 s) cs) (hm : s2 (fun a b s => some ((a, b), s)) m1 m2 = some (d, g)) (k : Cov c F (cs s) H) (n : ∀ v w F2 H2, Ex F F2 → Cov c F2 (cs g) H2 → ra.r F2 v d.1 → rb.r F2 w d.2 → D.nx ((σ.set i (some v)).set j (some w)) H2) : tPar i j (tCons ta (tCons tb tNil)) D σ H := by
  unfold s2 at hm
  obtain ⟨a, g1, q1, q⟩ := sC_some hm
  obtain ⟨b, g2, q2, q⟩ := sC_some q
  cases q
  exact h1 a g1 q1 c F H (Evl.Ex.refl _) k _ fun v F2 H2 e2 k2 r2 => h2 g1 b g q2 c F2 H2 e2 k2 _ fun w F3 H3 e3 k3 r3 => ⟨v, w, rfl, n v w F3 H3 (e2.trans e3) k3 (ra.up e3 r2) r3⟩
theorem q_parS {cs : δ → Cs} {s g : δ} {i j : Nat} {d : α × β} {m1 : Option (α × δ)} {m2 : δ → Option (β × δ)} (h1 : SM ra ta σ F (cs s) m1 cs) (h2 : ∀ s, SM rb tb σ F (cs s) (m2 s) cs) (hm : s2 (fun a b s => some ((a, b), s)) m1 m2 = some (d, g)) (k : Cov c F (cs s) H) (n : ∀ v w F2 H2, Ex F F2 → Cov c F2 (cs g) H2 → ra.r F2 v d.1 → rb.r F2 w d.2 → tz D ((σ.set i (some v)).set j (some w)) H2) : tSeq (tPar i j (tCons ta (tCons tb tNil))) tz D σ H := a_parS (D := { D with nx := tz D }) h1 h2 hm k n
/-- xs[i], xs[l] = e1, e2 -/
theorem a_swap {i j : Nat} {p : Addr} {ds ds1 ds2 : List α} {d : α × α} {ix iy : Int} {m : Option (α × α)} {mi mj : Option Int} {ti tj : TE} (hx : σ[i]? = some (some (.ref p))) (hj : cs[j]? = some (p, cLst ra ds)) (h : EM (rP2 K ra ra) te σ F cs m) (hi : ∀ cs, EM rInt ti σ F cs mi) (hy : ∀ cs, EM rInt tj σ F cs mj) (hm : m = some d) (hmi : mi = some ix) (hmj : mj = some iy) (hs1 : setG ds ix d.1 = some ds1) (hs2 : setG ds1 iy d.2 = some ds2) (k : Cov c F cs H)
    (n : ∀ F2 H2, Ex F F2 → Cov c F2 (cs.set j (p, cLst ra ds2)) H2 → D.nx σ H2) : tAsg te (gTup K 2 (gCons (gSub (tVar i) ti rSetL) (gCons (gSub (tVar i) tj rSetL) gNil))) D σ H := by
  refine h d hm c F H (Evl.Ex.refl _) k _ fun v F2 H2 e2 k2 r2 => ?_
  obtain ⟨a, v1, v2, rfl, h1, h2, h3⟩ := r2
  refine ⟨a, [v1, v2], rfl, ext_ k2.ex h1, rfl, v1, [v2], rfl, _, hx, hi cs ix hmi c F2 H2 e2 k2 _ fun w F3 H3 e3 k3 r3 => ?_⟩
  cases r3
  obtain ⟨_, _, o, g3, vs, rfl, g4⟩ := k3.at_ j hj
  unfold setG at hs1 hs2
  cases q : ixN ds.length ix with
  | none => rw [q] at hs1; cases hs1
  | some jj =>
    rw [q] at hs1
    cases hs1
    have k4 := k3.set (o := .lst (vs.set jj v1)) (x' := cLst ra (ds.set jj d.1)) j hj ⟨_, rfl, g4.set jj (ra.up e3 h2)⟩
    refine ⟨p, vs, ix, jj, rfl, rfl, g3, by rw [g4.length]; exact q, v2, [], rfl, _, hx, hy _ iy hmj c F3 _ (e2.trans e3) k4 _ fun w F5 H5 e5 k5 r5 => ?_⟩
    cases r5
    have hl : j < cs.length := (List.getElem?_eq_some_iff.mp hj).1
    have hj2 : (cs.set j (p, cLst ra (ds.set jj d.1)))[j]? = some (p, cLst ra (ds.set jj d.1)) := by rw [List.getElem?_set_self hl]
    obtain ⟨_, _, o, g5, ws, rfl, g6⟩ := k5.at_ j hj2
    cases q2 : ixN (ds.set jj d.1).length iy with
    | none => rw [q2] at hs2; cases hs2
    | some kk =>
      rw [q2] at hs2
      cases hs2
      have k6 := k5.set (o := .lst (ws.set kk v2)) (x' := cLst ra ((ds.set jj d.1).set kk d.2)) j hj2 ⟨_, rfl, g6.set kk (ra.up (e3.trans e5) h3)⟩
      rw [List.set_set] at k6
      exact ⟨p, ws, iy, kk, rfl, rfl, g5, by rw [g6.length]; exact q2, rfl, n F5 _ ((e2.trans e3).trans e5) k6⟩
theorem q_swap {i j : Nat} {p : Addr} {ds ds1 ds2 : List α} {d : α × α} {ix iy : Int} {m : Option (α × α)} {mi mj : Option Int} {ti tj : TE} (hx : σ[i]? = some (some (.ref p))) (hj : cs[j]? = some (p, cLst ra ds)) (h : EM (rP2 K ra ra) te σ F cs m) (hi : ∀ cs, EM rInt ti σ F cs mi) (hy : ∀ cs, EM rInt tj σ F cs mj) (hm : m = some d) (hmi : mi = some ix) (hmj : mj = some iy) (hs1 : setG ds ix d.1 = some ds1) (hs2 : setG ds1 iy d.2 = some ds2) (k : Cov c F cs H)
    (n : ∀ F2 H2, Ex F F2 → Cov c F2 (cs.set j (p, cLst ra ds2)) H2 → tz D σ H2) : tSeq (tAsg te (gTup K 2 (gCons (gSub (tVar i) ti rSetL) (gCons (gSub (tVar i) tj rSetL) gNil)))) tz D σ H := a_swap (D := { D with nx := tz D }) hx hj h hi hy hm hmi hmj hs1 hs2 k n
end

/-! lists joined, each of them only read -/
def rCatW (K : PySem.W.Frag) : R2 := fun x y H Q => ∃ l b xs zs, x = .ref l ∧ y = .ref b ∧ SqL K H l xs ∧ SqL K H b zs ∧ xs.length + zs.length ≤ sizeLine ∧ ∀ p, H p = none → Q (.ref p) (upd H p (.lst (xs ++ zs)))
theorem op_catW {X : Cx} : OpR X (binaryOp .Add) (rCatW X.K) := by
  intro pins s σ H x y v u Q I rx ry h
  obtain ⟨l, b, xs, zs, rfl, rfl, hH, hB, hz, q⟩ := h
  cases rx
  cases ry
  obtain ⟨its, r, p, _⟩ := I.list hH
  obtain ⟨its2, r2, p2, _⟩ := I.list hB
  have l1 := r.length
  have l2 := r2.length
  obtain ⟨⟨cls, dd, data, sl⟩, ho, hc, n, hd⟩ := p.isList
  obtain ⟨⟨cls2, dd2, data2, sl2⟩, ho2, hc2, n2, hd2⟩ := p2.isList
  simp only at hc hd hc2 hd2
  subst hc hd hc2 hd2
  refine concat_meets ⟨_, ho, rfl⟩ ⟨_, ho2, rfl⟩ noFill_list_add seq_list_add PySem.F.slot_list_add PySem.F.entry_list_add (PySem.F.args_list_add_2 _ _) (PyProof.Rows.list_addW l b its.toArray its2.toArray n n2 dd dd2 sl sl2 (by rw [List.size_toArray, List.size_toArray]; omega)) ⟨ho, ho2, ?_⟩
  have ea : its.toArray ++ its2.toArray = (its ++ its2).toArray := by simp
  rw [ea]
  exact ⟨.ref _, _, I.lnew (t' := s.toks) (r.append r2) (by rw [List.length_append]; omega), rfl, q _ I.fresh⟩
section
variable {α : Type} {ra : Rp α} {σ : L2.St} {F H : Hp} {cs : Cs} {K : PySem.W.Frag} {ta tb : TE}
theorem ef_catW {m1 m2 : Option (List α)} (ha : EL K ra ta σ F cs m1) (hb : EL K ra tb σ F cs m2) : EF ra (tOp (rCatW K) ta tb) σ F cs (o2 catG m1 m2) := fun d q c F1 H e k Q hQ => by
  obtain ⟨a, b, q1, q2, q3⟩ := o2_some q
  obtain ⟨rfl, hz⟩ := catG_some q3
  refine ha a q1 c F1 H e k _ fun v F2 H2 e2 k2 r2 => hb b q2 c F2 H2 (e.trans e2) k2 _ fun w F3 H3 e3 k3 r3 => ?_
  obtain ⟨p, vs, rfl, h1, h2⟩ := (r2.up e3).see k3
  obtain ⟨p', ws, rfl, h3, h4⟩ := r3.see k3
  exact ⟨p, p', vs, ws, rfl, rfl, h1, h3, by rw [h2.length, h4.length]; exact sz_ok hz, fun l hl => hQ l F3 _ (e2.trans e3) (k3.own hl ⟨_, rfl, h2.append h4⟩) (k3.dom l hl)⟩
theorem ef_listT {m : Option (List α)} (ha : EM (rTup K ra) ta σ F cs m) : EF ra (tCB (fun xs H Q => ∃ p ys, xs = [.ref p] ∧ (SqL K H p ys ∨ SqT K H p ys) ∧ ∀ l, H l = none → Q (.ref l) (upd H l (.lst ys))) (tCons ta tNil)) σ F cs m := fun d q c F1 H e k Q hQ => by
  refine ha d q c F1 H e k _ fun x F2 H2 e2 k2 r2 => ?_
  obtain ⟨p, vs, rfl, h1, h2⟩ := r2
  exact ⟨p, vs, rfl, .inr (ext_ k2.ex h1), fun l hl => hQ l F2 _ e2 (k2.own hl ⟨vs, rfl, h2⟩) (k2.dom l hl)⟩
end
end Mw

set_option maxHeartbeats 2000000
/-! sums, least, any, all; starred tuples; comprehensions of two fors; lists made longer in place -/
namespace Mw
open PySem L2 StX
open Evl (Ex)
def minL : List Int → Option Int
  | [] => none
  | a :: l => some (l.foldl min a)
theorem foldl_min (l : List Int) : ∀ a : Int, (∀ y ∈ a :: l, l.foldl min a ≤ y) ∧ l.foldl min a ∈ a :: l := by
  induction l with
  | nil => intro a; exact ⟨fun y hy => by simp at hy; subst hy; exact Int.le_refl _, List.mem_cons_self⟩
  | cons b l ih =>
    intro a
    obtain ⟨h1, h2⟩ := ih (min a b)
    have hm := h1 _ List.mem_cons_self
    refine ⟨fun y hy => ?_, ?_⟩
    · show l.foldl min (min a b) ≤ y
      rcases List.mem_cons.mp hy with rfl | hy
      · omega
      · rcases List.mem_cons.mp hy with rfl | hy
        · omega
        · exact h1 y (List.mem_cons_of_mem _ hy)
    · show l.foldl min (min a b) ∈ a :: b :: l
      rcases List.mem_cons.mp h2 with h | h
      · rw [h]
        by_cases q : a ≤ b
        · rw [Int.min_eq_left q]; simp
        · rw [Int.min_eq_right (by omega)]; simp
      · exact List.mem_cons_of_mem _ (List.mem_cons_of_mem _ h)
section
variable {α β γ : Type} {ra : Rp α} {rb : Rp β} {rc : Rp γ} {σ : L2.St} {F H : Hp} {cs : Cs} {K : PySem.W.Frag} {te ta tb : TE} {D : Ends} {c : Act} {tz : TS}
theorem em_minL {m : Option (List Int)} (h : EL K rInt te σ F cs m) : EM rInt (tCB (rMin K) (tCons te tNil)) σ F cs (o1 minL m) := fun d q c F1 H e k Q hQ => by
  obtain ⟨l, q1, q2⟩ := o1_some q
  refine h l q1 c F1 H e k _ fun v F2 H2 e2 k2 r2 => ?_
  obtain ⟨a, vs, rfl, h1, h2⟩ := r2.see k2
  rw [rs_int h2] at h1
  cases l with
  | nil => cases q2
  | cons x l =>
    cases q2
    refine ⟨a, x :: l, rfl, h1, Nat.succ_pos _, fun m hm hy => ?_⟩
    obtain ⟨g1, g2⟩ := foldl_min l x
    have e1 : m = l.foldl min x := Int.le_antisymm (hy _ g2) (g1 m hm)
    exact hQ _ F2 H2 e2 k2 (by rw [e1] <;> rfl)
theorem em_sumL {m : Option (List Int)} (h : EL K rInt te σ F cs m) : EM rInt (tCB (rSum K) (tCons te tNil)) σ F cs (m.map List.sum) := fun d q c F1 H e k Q hQ => by
  cases m with
  | none => cases q
  | some l =>
    cases q
    refine h l rfl c F1 H e k _ fun v F2 H2 e2 k2 r2 => ?_
    obtain ⟨a, vs, rfl, h1, h2⟩ := r2.see k2
    rw [rs_int h2] at h1
    exact ⟨a, l, rfl, h1, hQ _ F2 H2 e2 k2 rfl⟩
theorem em_anyL {m : Option (List Bool)} (h : EL K rBool te σ F cs m) : EM rBool (tCB (rAny K) (tCons te tNil)) σ F cs (m.map fun l => l.any id) := fun d q c F1 H e k Q hQ => by
  cases m with
  | none => cases q
  | some l =>
    cases q
    refine h l rfl c F1 H e k _ fun v F2 H2 e2 k2 r2 => ?_
    obtain ⟨a, vs, rfl, h1, h2⟩ := r2.see k2
    rw [rs_bool h2] at h1
    exact ⟨a, l, rfl, h1, hQ _ F2 H2 e2 k2 rfl⟩
theorem em_allL {m : Option (List Bool)} (h : EL K rBool te σ F cs m) : EM rBool (tCB (rAll K) (tCons te tNil)) σ F cs (m.map fun l => l.all id) := fun d q c F1 H e k Q hQ => by
  cases m with
  | none => cases q
  | some l =>
    cases q
    refine h l rfl c F1 H e k _ fun v F2 H2 e2 k2 r2 => ?_
    obtain ⟨a, vs, rfl, h1, h2⟩ := r2.see k2
    rw [rs_bool h2] at h1
    exact ⟨a, l, rfl, h1, hQ _ F2 H2 e2 k2 rfl⟩
/-! t[lo:hi] -/
theorem cut_all {l : List α} {lo hi : Option Int} (h : HT.sIx l.length 0 lo = 0 ∧ HT.sIx l.length l.length hi = l.length) : cut l lo hi = l := by
  unfold cut
  rw [h.1, h.2, List.drop_zero, Nat.sub_zero, List.take_length]
theorem em_sliceA {tl th : TO} {ma : Option (List α)} {lo hi : Option (Option Int)} (ha : EM (rTup K ra) ta σ F cs ma) (h1 : EO tl σ F cs lo) (h2 : EO th σ F cs hi) : EM (rTup K ra) (tSl (rSlA K) ta tl th) σ F cs (oCut ma lo hi) := fun d q c F1 H e k Q hQ => by
  obtain ⟨l, a, b, q1, q2, q3, rfl⟩ := oCut_some q
  refine ha l q1 c F1 H e k _ fun v F2 H2 e2 k2 r2 => h1 a q2 c F2 H2 (e.trans e2) k2 _ fun F3 H3 e3 k3 => h2 b q3 c F3 H3 ((e.trans e2).trans e3) k3 _ fun F4 H4 e4 k4 => ?_
  obtain ⟨p, vs, rfl, h3, h4⟩ := (rTup K ra).up (e3.trans e4) r2
  refine ⟨p, vs, rfl, ext_ k4.ex h3, fun g => ?_, fun g l' hl => ?_⟩
  · rw [h4.length] at g
    have r3 : (rTup K ra).r F4 (.ref p) (cut l a b) := by
      rw [cut_all g]
      exact ⟨p, vs, rfl, h3, h4⟩
    exact hQ (.ref p) F4 H4 ((e2.trans e3).trans e4) k4 r3
  · have fp := k4.fnone hl
    exact hQ (.ref l') _ _ (((e2.trans e3).trans e4).trans (Ex.new fp)) (k4.lay hl) ⟨l', _, rfl, upd_same, Rs.up (Ex.new fp) (h4.cut a b)⟩
/-! *xs in a display -/
def oApp {α : Type} (a l : Option (List α)) : Option (List α) := a.bind fun x => l.bind fun r => some (x ++ r)
theorem ea_starT {tr : TA} {m l : Option (List α)} (h : EM (rTup K ra) ta σ F cs m) (hr : EA ra tr σ F cs l) : EA ra (tStar K ta tr) σ F cs (oApp m l) := fun d q c F1 H e k Q hQ => by
  obtain ⟨a, q1, q2⟩ := bind_some q
  obtain ⟨b, q3, q4⟩ := bind_some q2
  cases q4
  refine h a q1 c F1 H e k _ fun v F2 H2 e2 k2 r2 => ?_
  obtain ⟨p, xs, rfl, h1, h2⟩ := r2
  exact ⟨p, xs, rfl, .inl (ext_ k2.ex h1), hr b q3 c F2 H2 (e.trans e2) k2 _ fun ys F3 H3 e3 k3 r3 => hQ (xs ++ ys) F3 H3 (e2.trans e3) k3 ((Rs.up e3 h2).append r3)⟩
/-! xs.extend(ys) -/
def extG {α : Type} (l z : List α) : Option (List α) := if l.length + z.length ≤ 16000000 then some (l ++ z) else none
theorem a_ext {i j : Nat} {p : Addr} {ds ds' zs : List α} {m : Option (List α)} (hx : σ[i]? = some (some (.ref p))) (hj : cs[j]? = some (p, cLst ra ds)) (h : ES ra te σ F cs m) (hm : m = some zs) (hz : extG ds zs = some ds') (k : Cov c F cs H)
    (n : ∀ F2 H2, Ex F F2 → Cov c F2 (cs.set j (p, cLst ra ds')) H2 → D.nx σ H2) : tDrop (tBM K "list" rExtend (tVar i) (tCons te tNil)) D σ H := by
  obtain ⟨rfl, hl⟩ := catG_some (a := ds) (b := zs) hz
  refine ⟨_, hx, ?_, ?_⟩
  · obtain ⟨_, _, o, h3, vs, rfl, h4⟩ := k.at_ j hj
    exact .inl ⟨rfl, _, SqL.of h3⟩
  · refine h zs hm c F H (Evl.Ex.refl _) k _ fun v F2 H2 e2 k2 r2 => ?_
    obtain ⟨_, _, o, g3, vs, rfl, g4⟩ := k2.at_ j hj
    obtain ⟨b, ws, rfl, h3, h4⟩ := r2.see k2
    exact ⟨p, b, vs, ws, rfl, rfl, g3, h3, by rw [g4.length, h4.length]; exact sz_ok hl, n F2 _ e2 (k2.set j hj ⟨_, rfl, g4.append h4⟩)⟩
theorem q_ext {i j : Nat} {p : Addr} {ds ds' zs : List α} {m : Option (List α)} (hx : σ[i]? = some (some (.ref p))) (hj : cs[j]? = some (p, cLst ra ds)) (h : ES ra te σ F cs m) (hm : m = some zs) (hz : extG ds zs = some ds') (k : Cov c F cs H)
    (n : ∀ F2 H2, Ex F F2 → Cov c F2 (cs.set j (p, cLst ra ds')) H2 → tz D σ H2) : tSeq (tDrop (tBM K "list" rExtend (tVar i) (tCons te tNil))) tz D σ H := a_ext (D := { D with nx := tz D }) hx hj h hm hz k n
/-! ### [e for x in xs if .. for y in ys if ..] -/
def oLc2 {α β γ : Type} (t : α → Option Bool) (m1 : α → Option (List β)) (t1 : α → β → Option Bool) (f : α → β → Option γ) : List α → Option (List γ)
  | [] => some []
  | a :: l => (t a).bind fun b => if b = true then (m1 a).bind fun l1 => (oMap (t1 a) (f a) l1).bind fun r1 => (oLc2 t m1 t1 f l).bind fun r => some (r1 ++ r) else oLc2 t m1 t1 f l
theorem oLc2_drop {t : α → Option Bool} {m1 : α → Option (List β)} {t1 : α → β → Option Bool} {f : α → β → Option γ} {ds : List α} {i : Nat} {d : α} (h : ds[i]? = some d) :
    oLc2 t m1 t1 f (ds.drop i) = (t d).bind fun b => if b = true then (m1 d).bind fun l1 => (oMap (t1 d) (f d) l1).bind fun r1 => (oLc2 t m1 t1 f (ds.drop (i + 1))).bind fun r => some (r1 ++ r) else oLc2 t m1 t1 f (ds.drop (i + 1)) := by
  obtain ⟨h1, h2⟩ := List.getElem?_eq_some_iff.mp h
  rw [List.drop_eq_getElem_cons h1, h2] <;> rfl
theorem ef_lc2 {wi wi1 : TI} {g g1 : TG} {tt tt1 : TT} {vs vs1 : List Nat} {m : Option (List α)} {t : α → Option Bool} {m1 : α → Option (List β)} {t1 : α → β → Option Bool} {f : α → β → Option γ} {S : α → Hp → L2.St → Prop} {S1 : L2.St → β → Hp → L2.St → Prop}
    (hw : EI ra wi σ F cs m) (hg : GT g ra K (wipe σ vs) S) (hs : ∀ d F σ2, S d F σ2 → wipe σ2 vs = wipe σ vs)
    (ht : ∀ d F1 σ2, Ex F F1 → S d F1 σ2 → ET tt σ2 F1 cs (t d)) (hw1 : ∀ d F1 σ2, Ex F F1 → S d F1 σ2 → EI rb wi1 σ2 F1 cs (m1 d))
    (hg1 : ∀ σ2, GT g1 rb K (wipe σ2 vs1) (S1 σ2)) (hs1 : ∀ d F1 σ2, S d F1 σ2 → ∀ d1 F3 σ3, S1 σ2 d1 F3 σ3 → wipe σ3 vs1 = wipe σ2 vs1)
    (ht1 : ∀ d F1 σ2, S d F1 σ2 → ∀ d1 F3 σ3, Ex F F3 → Ex F1 F3 → S1 σ2 d1 F3 σ3 → ET tt1 σ3 F3 cs (t1 d d1)) (he : ∀ d F1 σ2, S d F1 σ2 → ∀ d1 F3 σ3, Ex F F3 → Ex F1 F3 → S1 σ2 d1 F3 σ3 → EM rc te σ3 F3 cs (f d d1)) : EF rc (tLc2 wi g tt wi1 g1 tt1 te vs vs1) σ F cs (o1 (fun l => (oLc2 t m1 t1 f l).bind szG) m) := fun r q c F1 H1 e1 k1 Q hQ => by
  obtain ⟨ds, q1, q2⟩ := o1_some q
  obtain ⟨r', q2, q3⟩ := bind_some q2
  obtain ⟨rfl, hlen⟩ := szG_some q3
  refine hw ds q1 c F1 H1 e1 k1 _ fun J F2 H2 e2 k2 G => fun D hD => ?_
  have hD0 := k2.dom D hD
  refine ⟨fun i m H => m = ds.length - i ∧ i ≤ ds.length ∧ ∃ F' acc rest, Ex F2 F' ∧ oLc2 t m1 t1 f (ds.drop i) = some rest ∧ r = acc ++ rest ∧ Cov c F' (cs ++ [(D, cLst rc acc)]) H,
    ⟨ds.length, by simp, Nat.zero_le _, F2, [], r, Evl.Ex.refl _, q2, rfl, k2.own hD ⟨[], rfl, .nil⟩⟩, ?_⟩
  rintro i m H ⟨rfl, hi, F', acc, rest, e3, hr, eq, k3⟩
  by_cases hlt : i < ds.length
  · have hd : ds[i]? = some ds[i] := by simp [hlt]
    obtain ⟨ga, gb⟩ := G.go i _ hd c F' _ H e3 k3
    refine .inr ⟨ga, fun H => ∃ F' acc rest, Ex F2 F' ∧ oLc2 t m1 t1 f (ds.drop (i + 1)) = some rest ∧ r = acc ++ rest ∧ Cov c F' (cs ++ [(D, cLst rc acc)]) H, fun H' ⟨F', acc, rest, z⟩ => ⟨ds.length - (i + 1), by omega, rfl, hlt, F', acc, rest, z⟩, fun x H' y => ?_⟩
    obtain ⟨F4, e4, c4, r4⟩ := gb x H' y
    have k4 := c4 c _ k3
    rw [oLc2_drop hd] at hr
    obtain ⟨b, h1, hr⟩ := bind_some hr
    refine hg c F4 _ H' x _ k4 r4 _ fun σ2 s2 => ⟨hs _ _ _ s2, ?_⟩
    have kk : Cov c F4 cs H' := by
      have z := k4.keepN cs.length
      rw [List.take_left] at z
      exact z
    have e04 : Ex F F4 := ((e1.trans e2).trans e3).trans e4
    refine ht _ F4 σ2 e04 s2 b h1 _ F4 H' (Evl.Ex.refl _) kk.base _ fun F5 H5 e5 k5 => ?_
    have k5' : Cov c F5 (cs ++ [(D, cLst rc acc)]) H5 := k4.back k5 (Cov.old_ps k5)
    cases b with
    | true =>
      obtain ⟨l1, h2, hr⟩ := bind_some hr
      obtain ⟨r1, h3, hr⟩ := bind_some hr
      obtain ⟨rr, h4, hr⟩ := bind_some hr
      cases hr
      have kk5 : Cov c F5 cs H5 := by
        have z := k5'.keepN cs.length
        rw [List.take_left] at z
        exact z
      show wi1 σ2 H5 _
      refine hw1 _ F4 σ2 e04 s2 l1 h2 _ F5 H5 e5 kk5.base _ fun J1 F6 H6 e6 k6 G1 => ?_
      have k6' : Cov c F6 (cs ++ [(D, cLst rc acc)]) H6 := k5'.back k6 (Cov.old_ps k6)
      refine ⟨fun j k H => k = l1.length - j ∧ j ≤ l1.length ∧ ∃ F' A rest1, Ex F6 F' ∧ oMap (t1 ds[i]) (f ds[i]) (l1.drop j) = some rest1 ∧ r = A ++ rest1 ++ rr ∧ Cov c F' (cs ++ [(D, cLst rc A)]) H,
        ⟨l1.length, by simp, Nat.zero_le _, F6, acc, r1, Evl.Ex.refl _, h3, by rw [eq, List.append_assoc], k6'⟩, ?_⟩
      rintro j k H7 ⟨rfl, hj, F7, A, rest1, e7, hr1, eq1, k7⟩
      by_cases hlt1 : j < l1.length
      · have hd1 : l1[j]? = some l1[j] := by simp [hlt1]
        obtain ⟨gc, gd⟩ := G1.go j _ hd1 c F7 _ H7 e7 k7
        refine .inr ⟨gc, fun H => ∃ F' A rest1, Ex F6 F' ∧ oMap (t1 ds[i]) (f ds[i]) (l1.drop (j + 1)) = some rest1 ∧ r = A ++ rest1 ++ rr ∧ Cov c F' (cs ++ [(D, cLst rc A)]) H, fun H' ⟨F', A, rest1, z⟩ => ⟨l1.length - (j + 1), by omega, rfl, hlt1, F', A, rest1, z⟩, fun x H8 y => ?_⟩
        obtain ⟨F8, e8, c8, r8⟩ := gd x H8 y
        have k8 := c8 c _ k7
        rw [oMap_drop hd1] at hr1
        obtain ⟨b, h5, hr1⟩ := bind_some hr1
        have e48 : Ex F4 F8 := ((e5.trans e6).trans e7).trans e8
        refine hg1 σ2 c F8 _ H8 x _ k8 r8 _ fun σ3 s3 => ⟨hs1 _ _ _ s2 _ _ _ s3, ?_⟩
        have kk8 : Cov c F8 cs H8 := by
          have z := k8.keepN cs.length
          rw [List.take_left] at z
          exact z
        have e08 : Ex F F8 := e04.trans e48
        refine ht1 _ _ _ s2 _ F8 σ3 e08 e48 s3 b h5 _ F8 H8 (Evl.Ex.refl _) kk8.base _ fun F9 H9 e9 k9 => ?_
        have k9' : Cov c F9 (cs ++ [(D, cLst rc A)]) H9 := k8.back k9 (Cov.old_ps k9)
        cases b with
        | true =>
          obtain ⟨z, h6, hr1⟩ := bind_some hr1
          obtain ⟨r2, h7, hr1⟩ := bind_some hr1
          cases hr1
          have kk9 : Cov c F9 cs H9 := by
            have z := k9'.keepN cs.length
            rw [List.take_left] at z
            exact z
          show te σ3 H9 _
          refine he _ _ _ s2 _ F8 σ3 e08 e48 s3 z h6 _ F9 H9 e9 kk9.base _ fun v Fa Ha ea ka ra' => ?_
          have ka' : Cov c Fa (cs ++ [(D, cLst rc A)]) Ha := k9'.back ka (Cov.old_ps ka)
          obtain ⟨f1, _, o, f3, ws, rfl, f4⟩ := ka'.cell (D, cLst rc A) (List.mem_append_right _ List.mem_cons_self)
          have lA : A.length < r.length := by
            rw [eq1]
            simp
          refine ⟨ws, f3, sz_lt (by rw [f4.length]; omega), Fa, A ++ [z], r2, ((e7.trans e8).trans e9).trans ea, h7, by rw [eq1]; simp, ?_⟩
          have kb := ka'.set cs.length (p := D) (x := cLst rc A) (x' := cLst rc (A ++ [z])) (o := .lst (ws ++ [v])) (by simp) ⟨ws ++ [v], rfl, f4.snoc ra'⟩
          rw [List.set_append_right _ _ (Nat.le_refl _), Nat.sub_self] at kb
          exact kb
        | false => exact ⟨F9, A, rest1, (e7.trans e8).trans e9, hr1, eq1, k9'⟩
      · have ej : j = l1.length := by omega
        subst ej
        rw [List.drop_length] at hr1
        cases hr1
        rw [List.append_nil] at eq1
        exact .inl ⟨G1.stop c F7 _ H7 e7 k7, F7, A, rr, (((e3.trans e4).trans e5).trans e6).trans e7, h4, eq1, k7⟩
    | false => exact ⟨F5, acc, rest, (e3.trans e4).trans e5, hr, eq, k5'⟩
  · have e : i = ds.length := by omega
    subst e
    rw [List.drop_length] at hr
    cases hr
    rw [List.append_nil] at eq
    subst eq
    exact .inl ⟨G.stop c F' _ H e3 k3, hQ D F' H (e2.trans e3) k3 hD0⟩
end
/-! ### a walk whose expression changes the followed cell -/
def SI {α γ : Type} (ra : Rp α) (wi : TI) (σ : L2.St) (F : Hp) (cs : Cs) (m : Option (List α × γ)) (cs' : γ → Cs) : Prop := ∀ ds g, m = some (ds, g) → ∀ c F1 H, Ex F F1 → Cov c F1 cs H → ∀ R : It → Hp → Prop, (∀ J F2 H2, Ex F1 F2 → Cov c F2 (cs' g) H2 → Goes J F2 ra ds → R J H2) → wi σ H R
section
variable {α β γ ρ δ : Type} {ra : Rp α} {rb : Rp β} {σ : L2.St} {F H : Hp} {wi : TI} {g : TG} {tb : TS} {D : Ends} {c : Act} {cs : Cs} {m : Option (List α)} {ds : List α}
theorem a_forG {f : α → γ → Option γ} {g0 g1 : γ} (hwx : ∀ R : It → Hp → Prop, (∀ J F2 H2, Ex F F2 → Cov c F2 cs H2 → Goes J F2 ra ds → R J H2) → wi σ H R) (hf : oFold f ds g0 = some g1)
    (n : ∀ F2 H2, Ex F F2 → Cov c F2 cs H2 → ∃ (J : Inva γ) (cj : γ → Cs), J g0 σ F2 H2 ∧ (∀ x σ' F' H', J x σ' F' H' → Ex F2 F' ∧ Cov c F' (cj x) H') ∧
      (∀ d v x x' σ' F' H' F3 H3, J x σ' F' H' → Ex F' F3 → Cov c F3 (cj x) H3 → ra.r F3 v d → f d x = some x' →
        g v σ' H3 fun σ2 H4 => tb { D with nx := fun σ' H' => ∃ F', J x' σ' F' H', ct := fun σ' H' => ∃ F', J x' σ' F' H', bk := D.nx } σ2 H4) ∧
      (∀ σ' F' H', J g1 σ' F' H' → D.nx σ' H')) : tFor wi g tb D σ H := by
  refine hwx _ fun J0 F2 H2 e2 k2 G => ?_
  obtain ⟨J, cj, j0, stay, turn, fin⟩ := n F2 H2 e2 k2
  refine ⟨fun i m σ H => m = ds.length - i ∧ i ≤ ds.length ∧ ∃ x F', oFold f (ds.drop i) x = some g1 ∧ J x σ F' H, ⟨ds.length, by simp, Nat.zero_le _, g0, F2, hf, j0⟩, ?_⟩
  rintro i m σ H ⟨rfl, hi, x, F', hx, jx⟩
  obtain ⟨e3, k3⟩ := stay _ _ _ _ jx
  by_cases hlt : i < ds.length
  · have hd : ds[i]? = some ds[i] := by simp [hlt]
    obtain ⟨g1', g2⟩ := G.go i _ hd c F' _ H e3 k3
    rw [fold_drop hd] at hx
    obtain ⟨x', h1, h2⟩ := bind_some hx
    refine .inr ⟨g1', fun σ' H' => ∃ F', J x' σ' F' H', fun σ' H' ⟨F'', j'⟩ => ⟨ds.length - (i + 1), by omega, rfl, hlt, x', F'', h2, j'⟩, fun v H' y => ?_⟩
    obtain ⟨F4, e4, c4, r4⟩ := g2 v H' y
    exact turn _ v x x' σ F' H F4 H' jx e4 (c4 c _ k3) r4 h1
  · have e : i = ds.length := by omega
    subst e
    rw [List.drop_length] at hx
    cases hx
    exact .inl ⟨G.stop c F' _ H e3 k3, fin σ F' H jx⟩
theorem a_loopG {f : α → γ → Option (Lp γ ρ)} {g0 : γ} {out : Out γ ρ} (hwx : ∀ R : It → Hp → Prop, (∀ J F2 H2, Ex F F2 → Cov c F2 cs H2 → Goes J F2 ra ds → R J H2) → wi σ H R) (hf : oLoop f ds g0 = some out)
    (n : ∀ F2 H2, Ex F F2 → Cov c F2 cs H2 → ∃ (J : Inva γ) (cj : γ → Cs), J g0 σ F2 H2 ∧ (∀ x σ' F' H', J x σ' F' H' → Ex F2 F' ∧ Cov c F' (cj x) H') ∧
      (∀ d v x o σ' F' H' F3 H3, J x σ' F' H' → Ex F' F3 → Cov c F3 (cj x) H3 → ra.r F3 v d → f d x = some o → (∀ r, o = .ret r → out = .ret r) → (∀ x', o = .brk x' → out = .nx x') →
        g v σ' H3 fun σ2 H4 => tb { D with nx := fun σ' H' => ∃ F' x', o = .go x' ∧ J x' σ' F' H', ct := fun σ' H' => ∃ F' x', o = .go x' ∧ J x' σ' F' H', bk := D.nx } σ2 H4) ∧
      (∀ x σ' F' H', out = .nx x → J x σ' F' H' → D.nx σ' H')) : tFor wi g tb D σ H := by
  refine hwx _ fun J0 F2 H2 e2 k2 G => ?_
  obtain ⟨J, cj, j0, stay, turn, fin⟩ := n F2 H2 e2 k2
  refine ⟨fun i m σ H => m = ds.length - i ∧ i ≤ ds.length ∧ ∃ x F', oLoop f (ds.drop i) x = some out ∧ J x σ F' H, ⟨ds.length, by simp, Nat.zero_le _, g0, F2, hf, j0⟩, ?_⟩
  rintro i m σ H ⟨rfl, hi, x, F', hx, jx⟩
  obtain ⟨e3, k3⟩ := stay _ _ _ _ jx
  by_cases hlt : i < ds.length
  · have hd : ds[i]? = some ds[i] := by simp [hlt]
    obtain ⟨g1', g2⟩ := G.go i _ hd c F' _ H e3 k3
    rw [loop_drop hd] at hx
    obtain ⟨o, h1, h2⟩ := bind_some hx
    refine .inr ⟨g1', fun σ' H' => ∃ F' x', o = .go x' ∧ J x' σ' F' H', fun σ' H' ⟨F'', x', eo, j'⟩ => ⟨ds.length - (i + 1), by omega, rfl, hlt, x', F'', by rw [eo] at h2; exact h2, j'⟩, fun v H' y => ?_⟩
    obtain ⟨F4, e4, c4, r4⟩ := g2 v H' y
    exact turn _ v x o σ F' H F4 H' jx e4 (c4 c _ k3) r4 h1 (fun r er => by rw [er] at h2; exact (Option.some.inj h2).symm) (fun x' er => by rw [er] at h2; exact (Option.some.inj h2).symm)
  · have e : i = ds.length := by omega
    subst e
    rw [List.drop_length] at hx
    cases hx
    exact .inl ⟨G.stop c F' _ H e3 k3, fin x σ F' H rfl jx⟩
theorem a_forS {cs' : δ → Cs} {gg : δ} {mS : Option (List α × δ)} {f : α → γ → Option γ} {g0 g1 : γ} (hw : SI ra wi σ F cs mS cs') (hm : mS = some (ds, gg)) (k : Cov c F cs H) (hf : oFold f ds g0 = some g1)
    (n : ∀ F2 H2, Ex F F2 → Cov c F2 (cs' gg) H2 → ∃ (J : Inva γ) (cj : γ → Cs), J g0 σ F2 H2 ∧ (∀ x σ' F' H', J x σ' F' H' → Ex F2 F' ∧ Cov c F' (cj x) H') ∧
      (∀ d v x x' σ' F' H' F3 H3, J x σ' F' H' → Ex F' F3 → Cov c F3 (cj x) H3 → ra.r F3 v d → f d x = some x' →
        g v σ' H3 fun σ2 H4 => tb { D with nx := fun σ' H' => ∃ F', J x' σ' F' H', ct := fun σ' H' => ∃ F', J x' σ' F' H', bk := D.nx } σ2 H4) ∧
      (∀ σ' F' H', J g1 σ' F' H' → D.nx σ' H')) : tFor wi g tb D σ H := a_forG (fun R hR => hw ds gg hm c F H (Evl.Ex.refl _) k R hR) hf n
theorem a_loopS {cs' : δ → Cs} {gg : δ} {mS : Option (List α × δ)} {f : α → γ → Option (Lp γ ρ)} {g0 : γ} {out : Out γ ρ} (hw : SI ra wi σ F cs mS cs') (hm : mS = some (ds, gg)) (k : Cov c F cs H) (hf : oLoop f ds g0 = some out)
    (n : ∀ F2 H2, Ex F F2 → Cov c F2 (cs' gg) H2 → ∃ (J : Inva γ) (cj : γ → Cs), J g0 σ F2 H2 ∧ (∀ x σ' F' H', J x σ' F' H' → Ex F2 F' ∧ Cov c F' (cj x) H') ∧
      (∀ d v x o σ' F' H' F3 H3, J x σ' F' H' → Ex F' F3 → Cov c F3 (cj x) H3 → ra.r F3 v d → f d x = some o → (∀ r, o = .ret r → out = .ret r) → (∀ x', o = .brk x' → out = .nx x') →
        g v σ' H3 fun σ2 H4 => tb { D with nx := fun σ' H' => ∃ F' x', o = .go x' ∧ J x' σ' F' H', ct := fun σ' H' => ∃ F' x', o = .go x' ∧ J x' σ' F' H', bk := D.nx } σ2 H4) ∧
      (∀ x σ' F' H', out = .nx x → J x σ' F' H' → D.nx σ' H')) : tFor wi g tb D σ H := a_loopG (fun R hR => hw ds gg hm c F H (Evl.Ex.refl _) k R hR) hf n
end
section
variable {α β γ : Type} {ra : Rp α} {rb : Rp β} {σ : L2.St} {F H : Hp} {cs : γ → Cs} {s : γ} {K : PySem.W.Frag} {te ta tb : TE} {wi : TI} {g : TG} {tt : TT} {vs : List Nat}
theorem si_rng1 {m : Option (Int × γ)} (h : SM rInt te σ F (cs s) m cs) : SI rInt (iRng1 (tCons te tNil)) σ F (cs s) (s1 (fun a s => sK s (rngG a)) m) cs := fun ds gg q c F1 H e k R hR => by
  unfold s1 at q
  obtain ⟨j, g1, q1, q⟩ := sC_some q
  obtain ⟨q2, eg⟩ := sP_some q
  subst eg
  unfold rngG at q2
  split at q2
  · rename_i g
    cases q2
    refine h j _ q1 c F1 H e k _ fun v F2 H2 e2 k2 r2 => ?_
    cases r2
    have z := hR (Itr 0 (j - 0).toNat) F2 H2 e2 k2 goes_rng
    rw [Int.sub_zero] at z
    exact ⟨j, rfl, g.1, g.2, z⟩
  · cases q2
theorem si_rng2 {m : Option (Int × γ)} {n : γ → Option (Int × γ)} (h : SM rInt te σ F (cs s) m cs) (h' : ∀ s, SM rInt tb σ F (cs s) (n s) cs) : SI rInt (iRng2 (tCons te (tCons tb tNil))) σ F (cs s) (s2 (fun a b s => sK s (rngG2 a b)) m n) cs := fun ds gg q c F1 H e k R hR => by
  unfold s2 at q
  obtain ⟨i, g1, q1, q⟩ := sC_some q
  obtain ⟨j, g2, q2, q⟩ := sC_some q
  obtain ⟨q3, eg⟩ := sP_some q
  subst eg
  unfold rngG2 at q3
  split at q3
  · rename_i g
    cases q3
    refine h i _ q1 c F1 H e k _ fun v F2 H2 e2 k2 r2 => h' _ j _ q2 c F2 H2 (e.trans e2) k2 _ fun w F3 H3 e3 k3 r3 => ?_
    cases r2
    cases r3
    exact ⟨i, j, rfl, g, hR _ F3 H3 (e2.trans e3) k3 goes_rng⟩
  · cases q3
theorem si_list {m : Option (List α × γ)} (h : SM (rLst ra) te σ F (cs s) m cs) : SI ra (iList K te) σ F (cs s) m cs := fun ds gg q c F1 H e k R hR => h ds gg q c F1 H e k _ fun v F2 H2 e2 k2 r2 => by
  obtain ⟨a, vs, rfl, h1, h2⟩ := r2
  exact ⟨a, rfl, ⟨vs, SqL.of (k2.ex _ _ h1)⟩, hR _ F2 H2 e2 k2 (goes_list' (SqL.of h1) h2)⟩
theorem si_tup {m : Option (List α × γ)} (h : SM (rTup K ra) te σ F (cs s) m cs) : SI ra (iTup K te) σ F (cs s) m cs := fun ds gg q c F1 H e k R hR => h ds gg q c F1 H e k _ fun v F2 H2 e2 k2 r2 => by
  obtain ⟨a, vs, rfl, h1, h2⟩ := r2
  exact ⟨a, rfl, ⟨vs, ext_ k2.ex h1⟩, hR _ F2 H2 e2 k2 (goes_tup (SqT.of h1) h2)⟩
end
section
variable {α β γ : Type} {ra : Rp α} {rb : Rp β} {σ : L2.St} {F H : Hp} {K : PySem.W.Frag} {te : TE} {wi : TI} {g : TG} {vs : List Nat}
theorem sf_lcS {cs : γ → Cs} {s : γ} {m : Option (List α × γ)} {f : α → γ → Option (β × γ)} {S : α → Hp → L2.St → Prop} (hw : SI ra wi σ F (cs s) m cs) (hg : GT g ra K (wipe σ vs) S) (hs : ∀ d F σ2, S d F σ2 → wipe σ2 vs = wipe σ vs)
    (he : ∀ d F1 σ2 s, Ex F F1 → S d F1 σ2 → SM rb te σ2 F1 (cs s) (f d s) cs) (hps : ∀ s s2, (cs s).map (·.1) = (cs s2).map (·.1)) : SF rb (tLc wi g tYes te vs) σ F (cs s) (sC m fun l s => sLc f l s) cs := fun r sE q c F1 H1 e1 k1 Q hQ => by
  obtain ⟨ds, sB, q1, q2⟩ := sC_some q
  unfold sLc at q2
  split at q2
  case isFalse => cases q2
  rename_i hlen
  refine hw ds sB q1 c F1 H1 e1 k1 _ fun J F2 H2 e2 k2 G => fun D hD => ?_
  have hD0 := k2.dom D hD
  refine ⟨fun i m H => m = ds.length - i ∧ i ≤ ds.length ∧ ∃ F' acc rest s', Ex F2 F' ∧ sMap f (ds.drop i) s' = some (rest, sE) ∧ r = acc ++ rest ∧ acc.length ≤ i ∧ Cov c F' (cs s' ++ [(D, cLst rb acc)]) H,
    ⟨ds.length, by simp, Nat.zero_le _, F2, [], r, sB, Evl.Ex.refl _, q2, rfl, Nat.le_refl _, k2.own hD ⟨[], rfl, .nil⟩⟩, ?_⟩
  rintro i m H ⟨rfl, hi, F', acc, rest, s', e3, hr, eq, la, k3⟩
  by_cases hlt : i < ds.length
  · have hd : ds[i]? = some ds[i] := by simp [hlt]
    obtain ⟨g1, g2⟩ := G.go i _ hd c F' _ H e3 k3
    refine .inr ⟨g1, fun H => ∃ F' acc rest s', Ex F2 F' ∧ sMap f (ds.drop (i + 1)) s' = some (rest, sE) ∧ r = acc ++ rest ∧ acc.length ≤ i + 1 ∧ Cov c F' (cs s' ++ [(D, cLst rb acc)]) H, fun H' ⟨F', acc, rest, s', z⟩ => ⟨ds.length - (i + 1), by omega, rfl, hlt, F', acc, rest, s', z⟩, fun x H' y => ?_⟩
    obtain ⟨F4, e4, c4, r4⟩ := g2 x H' y
    have k4 := c4 c _ k3
    rw [sMap_drop hd] at hr
    obtain ⟨z, s3, h2, hr⟩ := sC_some hr
    obtain ⟨rr, s4, h3, hr⟩ := sC_some hr
    cases hr
    refine hg c F4 _ H' x _ k4 r4 _ fun σ2 s2 => ⟨hs _ _ _ s2, ?_⟩
    have kk : Cov c F4 (cs s') H' := by
      have z := k4.keepN (cs s').length
      rw [List.take_left] at z
      exact z
    have e04 : Ex F F4 := ((e1.trans e2).trans e3).trans e4
    show te σ2 H' _
    refine he _ F4 σ2 s' e04 s2 z s3 h2 _ F4 H' (Evl.Ex.refl _) kk.base _ fun v F6 H6 e6 k6 r6 => ?_
    have k6' : Cov c F6 (cs s3 ++ [(D, cLst rb acc)]) H6 := k4.back k6 (Cov.old_ps k6)
    obtain ⟨f1, _, o, f3, ws, rfl, f4⟩ := k6'.cell (D, cLst rb acc) (List.mem_append_right _ List.mem_cons_self)
    refine ⟨ws, f3, sz_lt (by rw [f4.length]; omega), F6, acc ++ [z], rr, s3, (e3.trans e4).trans e6, h3, by rw [eq]; simp, by simp; omega, ?_⟩
    have k7 := k6'.set (cs s3).length (p := D) (x := cLst rb acc) (x' := cLst rb (acc ++ [z])) (o := .lst (ws ++ [v])) (by simp) ⟨ws ++ [v], rfl, f4.snoc r6⟩
    rw [List.set_append_right _ _ (Nat.le_refl _), Nat.sub_self] at k7
    exact k7
  · have e : i = ds.length := by omega
    subst e
    rw [List.drop_length] at hr
    cases hr
    rw [List.append_nil] at eq
    subst eq
    exact .inl ⟨G.stop c F' _ H e3 k3, hQ D F' H (e2.trans e3) k3 hD0⟩
end
section
variable {α β γ δ : Type} {ra : Rp α} {rb : Rp β} {σ : L2.St} {F H : Hp} {cs : δ → Cs} {s g : δ} {c : Act} {te ti : TE} {D : Ends} {tz : TS}
/-- xs[i] = v, both changing the followed cell -/
theorem a_subS {i j : Nat} {p : Addr} {d : α} {ds ds' : List α} {ix : Int} {m : Option (α × δ)} {mi : δ → Option (Int × δ)} (hx : σ[i]? = some (some (.ref p))) (hj : ∀ s, (cs s)[j]? = some (p, cLst ra ds)) (h : SM ra te σ F (cs s) m cs) (hi : ∀ s, SM rInt ti σ F (cs s) (mi s) cs) (hm : s2 (fun a b s => some ((a, b), s)) m mi = some ((d, ix), g)) (hset : setG ds ix d = some ds') (k : Cov c F (cs s) H)
    (n : ∀ F2 H2, Ex F F2 → Cov c F2 ((cs g).set j (p, cLst ra ds')) H2 → D.nx σ H2) : tAsg te (gSub (tVar i) ti rSetL) D σ H := by
  unfold s2 at hm
  obtain ⟨a, g1, q1, q⟩ := sC_some hm
  obtain ⟨b, g2, q2, q⟩ := sC_some q
  cases q
  refine h d g1 q1 c F H (Evl.Ex.refl _) k _ fun v F2 H2 e2 k2 r2 => ?_
  refine ⟨_, hx, hi g1 ix g q2 c F2 H2 e2 k2 _ fun w F3 H3 e3 k3 r3 => ?_⟩
  cases r3
  obtain ⟨_, _, o, h3, vs, rfl, h4⟩ := k3.at_ j (hj g)
  unfold setG at hset
  cases q : ixN ds.length ix with
  | none => rw [q] at hset; cases hset
  | some jj =>
    rw [q] at hset
    cases hset
    exact ⟨p, vs, ix, jj, rfl, rfl, h3, by rw [h4.length]; exact q, n F3 _ (e2.trans e3) (k3.set j (hj g) ⟨_, rfl, h4.set jj (ra.up e3 r2)⟩)⟩
theorem q_subS {i j : Nat} {p : Addr} {d : α} {ds ds' : List α} {ix : Int} {m : Option (α × δ)} {mi : δ → Option (Int × δ)} (hx : σ[i]? = some (some (.ref p))) (hj : ∀ s, (cs s)[j]? = some (p, cLst ra ds)) (h : SM ra te σ F (cs s) m cs) (hi : ∀ s, SM rInt ti σ F (cs s) (mi s) cs) (hm : s2 (fun a b s => some ((a, b), s)) m mi = some ((d, ix), g)) (hset : setG ds ix d = some ds') (k : Cov c F (cs s) H)
    (n : ∀ F2 H2, Ex F F2 → Cov c F2 ((cs g).set j (p, cLst ra ds')) H2 → tz D σ H2) : tSeq (tAsg te (gSub (tVar i) ti rSetL)) tz D σ H := a_subS (D := { D with nx := tz D }) hx hj h hi hm hset k n
/-- xs.append(v), v changing the followed cell -/
theorem a_appS {K : PySem.W.Frag} {i j : Nat} {p : Addr} {d : α} {ds : List α} {m : Option (α × δ)} (hx : σ[i]? = some (some (.ref p))) (hj : ∀ s, (cs s)[j]? = some (p, cLst ra ds)) (h : SM ra te σ F (cs s) m cs) (hm : m = some (d, g)) (hz : ds.length ≤ 16000000) (k : Cov c F (cs s) H)
    (n : ∀ F2 H2, Ex F F2 → Cov c F2 ((cs g).set j (p, cLst ra (ds ++ [d]))) H2 → D.nx σ H2) : tDrop (tBM K "list" rAppend (tVar i) (tCons te tNil)) D σ H := by
  refine ⟨_, hx, ?_, ?_⟩
  · obtain ⟨_, _, o, h3, vs, rfl, h4⟩ := k.at_ j (hj s)
    exact .inl ⟨rfl, _, SqL.of h3⟩
  · refine h d g hm c F H (Evl.Ex.refl _) k _ fun v F2 H2 e2 k2 r2 => ?_
    obtain ⟨_, _, o, h3, vs, rfl, h4⟩ := k2.at_ j (hj g)
    exact ⟨p, vs, v, rfl, rfl, h3, sz_lt (by rw [h4.length]; omega), n F2 _ e2 (k2.set j (hj g) ⟨_, rfl, h4.snoc r2⟩)⟩
theorem q_appS {K : PySem.W.Frag} {i j : Nat} {p : Addr} {d : α} {ds : List α} {m : Option (α × δ)} (hx : σ[i]? = some (some (.ref p))) (hj : ∀ s, (cs s)[j]? = some (p, cLst ra ds)) (h : SM ra te σ F (cs s) m cs) (hm : m = some (d, g)) (hz : ds.length ≤ 16000000) (k : Cov c F (cs s) H)
    (n : ∀ F2 H2, Ex F F2 → Cov c F2 ((cs g).set j (p, cLst ra (ds ++ [d]))) H2 → tz D σ H2) : tSeq (tDrop (tBM K "list" rAppend (tVar i) (tCons te tNil))) tz D σ H := a_appS (D := { D with nx := tz D }) hx hj h hm hz k n
end
/-! range(a, b) of any whole numbers: the model keeps two kinds of iterator -/
section
open PySem.Spec PyProof.Rows
theorem turn_longrange {P : Program} {w : World} {K : PySem.W.Frag} {tg : Expr} (it : Addr) (lo : Int) (n : Nat) : Turn P w K tg (Itr lo n) [it] it (fun i h => IsLongIter h it (lo + (i : Nat) * 1) ((n : Int) - (i : Nat)) 1) where
  mem := by simp
  obj := fun i h st b hb => by
    have e : b = it := by simpa using hb
    subst e
    exact ⟨_, st, fun v z => by
      have z' : Data.fields _ = Data.cell v := z
      cases z'⟩
  keep := fun i h h' st k => k it (by simp) _ st
  item := by
    intro X hP hw hK hc i pins s σ H E I hf st hg
    subst hP hw hK
    obtain ⟨f0, f1, f2, f3, f4, f5⟩ := hf it (by simp)
    have W := Walks.longrange (prog := X.prog) (w := X.w) (I.ok.hd hc) it lo 1 n
    refine W.item i s _ _ hg st fun v h' tk hv st' kk => ?_
    obtain ⟨t, rfl⟩ := hv
    have I1 : Inv X pins σ H { s with heap := h', toks := tk } := I.turned (fun b o hb e => kk b o (by simpa using hb) e) f0 f1 f3 f4 f5
    refine ⟨_, rfl, go_of (s := { s with heap := h', toks := tk }) (n := "longrange_iterator") st' rfl rfl (by decide) ⟨.int (lo + i), H, I1, ⟨t, ?_⟩, ⟨rfl, rfl⟩, st', fun b hb => (hf b hb).1⟩⟩
    rw [Int.mul_one]
  done := by
    intro X hP hw hK hc i pins s σ H E I hf st hg
    subst hP hw hK
    obtain ⟨f0, f1, f2, f3, f4, f5⟩ := hf it (by simp)
    exact wpAny_pyNext_long_end (I.ok.hd hc) st (by have : n ≤ i := hg; omega) fun h' eb => ⟨rfl, I.turned (t' := s.toks) (fun b o hb e => eb b o hb e) f0 f1 f3 f4 f5⟩
  self := fun _ _ _ _ _ st h => wpAny_pyIter_longiter st h
variable {X : Cx} {tg : Expr}
theorem rangeSize1 (lo hi : Int) : (((hi - lo).toNat : Nat) : Int) - ((0 : Nat) : Int) = Builtin.Range.rangeSize lo hi 1 := by rw [rangeSize_one]; split <;> omega
theorem range_itW {pins : List (Addr × Obj)} {σ : L2.St} {H : Hp} {s : Shared} {R : It → Hp → Prop} {E : Value → Shared → Prop} {lo hi : Int} {t u v : Tok} {tk : Nat} (I : Inv X pins σ H s)
    (q : R (Itr lo (hi - lo).toNat) H) : wpAny (model X.prog X.w) X.A (pyIter (.ref s.heap.objs.size)) (PIE X pins σ tg R) E { s with heap := s.heap.push { cls := .type "range", data := .fields #[.int lo t, .int hi u, .int 1 v] }, toks := tk } := by
  have I1 : Inv X pins σ H { s with heap := s.heap.push { cls := .type "range", data := .fields #[.int lo t, .int hi u, .int 1 v] }, toks := tk } := I.kept fun b o e => Heap.get?_push_of_some _ e
  have e1 : lo + ((0 : Nat) : Int) * 1 = lo := by simp
  cases hs : Builtin.Range.small lo hi 1 with
  | true =>
    refine wpAny_pyIter_range (IsRange.new ..) hs ?_
    refine ⟨(s.heap.push { cls := .type "range", data := .fields #[.int lo t, .int hi u, .int 1 v] }).objs.size, [(s.heap.push { cls := .type "range", data := .fields #[.int lo t, .int hi u, .int 1 v] }).objs.size], _, _, H, rfl,
      I1.kept (t' := tk) fun b o e => Heap.get?_push_of_some _ e, turn_range _ lo (hi - lo).toNat, ?_, fun b hb => ?_, q⟩
    · show IsRangeIter _ _ (lo + ((0 : Nat) : Int) * 1) ((((hi - lo).toNat : Nat) : Int) - ((0 : Nat) : Int)) 1
      rw [e1, rangeSize1]
      exact Heap.get?_push_size _ rfl
    · have e : b = (s.heap.push { cls := .type "range", data := .fields #[.int lo t, .int hi u, .int 1 v] }).objs.size := by simpa using hb
      subst e
      exact I1.fpOk (Nat.le_refl _) (I1.hok.fresh (Nat.le_refl _))
  | false =>
    refine wpAny_pyIter_longrange (IsRange.new ..) hs ?_
    refine ⟨(s.heap.push { cls := .type "range", data := .fields #[.int lo t, .int hi u, .int 1 v] }).objs.size, [(s.heap.push { cls := .type "range", data := .fields #[.int lo t, .int hi u, .int 1 v] }).objs.size], _, _, H, rfl,
      I1.kept (t' := tk) fun b o e => Heap.get?_push_of_some _ e, turn_longrange _ lo (hi - lo).toNat, ?_, fun b hb => ?_, q⟩
    · show IsLongIter _ _ (lo + ((0 : Nat) : Int) * 1) ((((hi - lo).toNat : Nat) : Int) - ((0 : Nat) : Int)) 1
      rw [e1, rangeSize1]
      exact Heap.get?_push_size _ rfl
    · have e : b = (s.heap.push { cls := .type "range", data := .fields #[.int lo t, .int hi u, .int 1 v] }).objs.size := by simpa using hb
      subst e
      exact I1.fpOk (Nat.le_refl _) (I1.hok.fresh (Nat.le_refl _))
def iRng2W (ta : TA) : TI := fun σ H R => ta σ H fun vs H1 => ∃ i j : Int, vs = [.int i, .int j] ∧ R (Itr i (j - i).toNat) H1
theorem pi_range2W {a b : Expr} {ta : TA} {p pos : Pos} (hg : Gl X "range") (hm : X.mg "range" = none) (ha : PA X [a, b] ta) (hs : starEach [a, b] X.env = [(false, eval a X.env), (false, eval b X.env)] := by rfl) (hs2 : starEach [b] X.env = [(false, eval b X.env)] := by rfl) :
    PI X tg (.Call (.Name "range" p) [a, b] [] pos) (iRng2W ta) := by
  refine ⟨fun pins s σ H R I h => ?_⟩
  refine Call_ (ld_blt I hg hm boot_range (PyProof.Rows.callWith_type1 (thn (ha.run pos pins s σ H _ I h) fun us s1 ⟨vs, H1, I1, r1, q1⟩ => ?_) (by rw [hs, hs2]) (by rw [hs2]; rfl)))
  obtain ⟨i, j, e, q⟩ := q1
  subst e
  cases r1 with
  | cons r rr =>
    cases rr with
    | cons r' rr =>
      cases rr
      obtain ⟨t, rfl⟩ := r
      obtain ⟨t', rfl⟩ := r'
      exact call_range_2 (range_itW I1 q)
end
def rngW (lo hi : Int) : Option (List Int) := some (rngL lo hi)
section
variable {σ : L2.St} {F H : Hp} {te tb : TE}
theorem ei_rng2W {cs : Cs} {m n : Option Int} (h : EM rInt te σ F cs m) (h' : EM rInt tb σ F cs n) : EI rInt (iRng2W (tCons te (tCons tb tNil))) σ F cs (o2 rngW m n) := fun ds q c F1 H e k R hR => by
  obtain ⟨i, j, q1, q2, q3⟩ := o2_some q
  cases q3
  refine h i q1 c F1 H e k _ fun v F2 H2 e2 k2 r2 => h' j q2 c F2 H2 (e.trans e2) k2 _ fun w F3 H3 e3 k3 r3 => ?_
  cases r2
  cases r3
  exact ⟨i, j, rfl, hR _ F3 H3 (e2.trans e3) k3 goes_rng⟩
theorem si_rng2W {γ : Type} {cs : γ → Cs} {s : γ} {m : Option (Int × γ)} {n : γ → Option (Int × γ)} (h : SM rInt te σ F (cs s) m cs) (h' : ∀ s, SM rInt tb σ F (cs s) (n s) cs) : SI rInt (iRng2W (tCons te (tCons tb tNil))) σ F (cs s) (s2 (fun a b s => sK s (rngW a b)) m n) cs := fun ds gg q c F1 H e k R hR => by
  unfold s2 at q
  obtain ⟨i, g1, q1, q⟩ := sC_some q
  obtain ⟨j, g2, q2, q⟩ := sC_some q
  obtain ⟨q3, eg⟩ := sP_some q
  subst eg
  cases q3
  refine h i _ q1 c F1 H e k _ fun v F2 H2 e2 k2 r2 => h' _ j _ q2 c F2 H2 (e.trans e2) k2 _ fun w F3 H3 e3 k3 r3 => ?_
  cases r2
  cases r3
  exact ⟨i, j, rfl, hR _ F3 H3 (e2.trans e3) k3 goes_rng⟩
end
/-! in place: x *= e, xs[i] -= e -/
section
open PySem.Spec PyProof.Rows
variable {X : Cx}
theorem ip_op {op : Operator} {rd : R2} (h : OpR X (inplaceOp op) rd) : PIp X op rd := h
theorem iop_mulI : OpR X (inplaceOp .Mult) (rI PySem.IntMulOk fun i j => .int (i * j)) := opI fun _ _ _ _ _ _ _ hc q => PyProof.Rows.imul_int q hc
theorem get_listK (K : PySem.W.Frag) (hK : X.K = K) : PGet X (rIxL K) := by
  subst hK
  intro pins s σ H x y v u Q I rx ry h
  obtain ⟨p, xs, i, z, rfl, rfl, hq, he, q⟩ := h
  cases rx
  obtain ⟨t, rfl⟩ := ry
  obtain ⟨its, r, pl, hz⟩ := I.list hq
  obtain ⟨j, h1, h2, h3, h4, h5⟩ := atI_get he
  obtain ⟨w, ew, rw'⟩ := r.get h2
  have hl := r.length
  have hn := line63
  have fin : EP X pins σ Q w s := ⟨z, H, I, rw', q⟩
  by_cases h0 : 0 ≤ i
  · have hj : i.toNat = j := by
      rw [seqIndex_of h0 h5] at h1
      exact Option.some.inj h1
    exact wpAny_getItem_list pl.isList h0 (by omega) (by rw [hj]; simpa using ew) fin
  · have hj : (i + (its.toArray.size : Int)).toNat = j := by
      rw [seqIndex_neg (by omega) h4] at h1
      rw [List.size_toArray, ← hl]
      exact Option.some.inj h1
    exact wpAny_getItem_list_neg pl.isList (by omega) (by rw [List.size_toArray] <;> omega) (by omega) (by rw [hj]; simpa using ew) fin
end
section
variable {σ : L2.St} {F H : Hp} {cs : Cs} {K : PySem.W.Frag} {te ti : TE} {D : Ends} {c : Act} {tz : TS}
theorem a_augO {i : Nat} {rd : R2} {g : Int → Int → Option Int} {a b d : Int} {v : V} {F0 : Hp} {mi : Option Int} (hv : VO rd rInt rInt rInt g) (hx : σ[i]? = some (some v)) (rv : rInt.r F0 v a) (h : EM rInt te σ F cs mi) (hm : mi = some b) (hg : g a b = some d) (k : Cov c F cs H) (n : ∀ v F2 H2, Ex F F2 → Cov c F2 cs H2 → rInt.r F2 v d → D.nx (σ.set i (some v)) H2) : tAug i te rd D σ H :=
  ⟨v, hx, h b hm c F H (Evl.Ex.refl _) k _ fun w F2 H2 e2 k2 r2 => hv c F2 cs H2 v w a b d k2 rv r2 hg _ fun u F3 H3 e3 k3 r3 => n u F3 H3 (e2.trans e3) k3 r3⟩
theorem q_augO {i : Nat} {rd : R2} {g : Int → Int → Option Int} {a b d : Int} {v : V} {F0 : Hp} {mi : Option Int} (hv : VO rd rInt rInt rInt g) (hx : σ[i]? = some (some v)) (rv : rInt.r F0 v a) (h : EM rInt te σ F cs mi) (hm : mi = some b) (hg : g a b = some d) (k : Cov c F cs H) (n : ∀ v F2 H2, Ex F F2 → Cov c F2 cs H2 → rInt.r F2 v d → tz D (σ.set i (some v)) H2) : tSeq (tAug i te rd) tz D σ H := a_augO (D := { D with nx := tz D }) hv hx rv h hm hg k n
/-- xs[i] op= e, the list owned -/
theorem a_augS {i j : Nat} {p : Addr} {rd : R2} {g : Int → Int → Option Int} {a b d ix : Int} {ds ds' : List Int} {mi mb : Option Int} (hv : VO rd rInt rInt rInt g) (hx : σ[i]? = some (some (.ref p))) (hj : cs[j]? = some (p, cLst rInt ds)) (hi : EM rInt ti σ F cs mi) (h : EM rInt te σ F cs mb) (hmi : mi = some ix) (hm : mb = some b) (ha : ixG ds ix = some a) (hg : g a b = some d) (hset : setG ds ix d = some ds') (k : Cov c F cs H)
    (n : ∀ F2 H2, Ex F F2 → Cov c F2 (cs.set j (p, cLst rInt ds')) H2 → D.nx σ H2) : tAugS (tVar i) ti te (rIxL K) rd rSetL D σ H := by
  refine ⟨_, hx, hi ix hmi c F H (Evl.Ex.refl _) k _ fun w F2 H2 e2 k2 r2 => ?_⟩
  cases r2
  obtain ⟨_, _, o, h3, vs, rfl, h4⟩ := k2.at_ j hj
  obtain ⟨v, h5, h6⟩ := rs_at h4 ha
  refine ⟨p, vs, ix, v, rfl, rfl, SqL.of h3, h5, ?_⟩
  refine h b hm c F2 H2 e2 k2 _ fun w F3 H3 e3 k3 r3 => ?_
  refine hv c F3 cs H3 v w a b d k3 (rInt.up e3 h6) r3 hg _ fun u F4 H4 e4 k4 r4 => ?_
  obtain ⟨_, _, o, h7, ws, rfl, h8⟩ := k4.at_ j hj
  unfold setG at hset
  cases q : ixN ds.length ix with
  | none => rw [q] at hset; cases hset
  | some jj =>
    rw [q] at hset
    cases hset
    exact ⟨p, ws, ix, jj, rfl, rfl, h7, by rw [h8.length]; exact q, n F4 _ ((e2.trans e3).trans e4) (k4.set j hj ⟨_, rfl, h8.set jj r4⟩)⟩
theorem q_augS {i j : Nat} {p : Addr} {rd : R2} {g : Int → Int → Option Int} {a b d ix : Int} {ds ds' : List Int} {mi mb : Option Int} (hv : VO rd rInt rInt rInt g) (hx : σ[i]? = some (some (.ref p))) (hj : cs[j]? = some (p, cLst rInt ds)) (hi : EM rInt ti σ F cs mi) (h : EM rInt te σ F cs mb) (hmi : mi = some ix) (hm : mb = some b) (ha : ixG ds ix = some a) (hg : g a b = some d) (hset : setG ds ix d = some ds') (k : Cov c F cs H)
    (n : ∀ F2 H2, Ex F F2 → Cov c F2 (cs.set j (p, cLst rInt ds')) H2 → tz D σ H2) : tSeq (tAugS (tVar i) ti te (rIxL K) rd rSetL) tz D σ H := a_augS (D := { D with nx := tz D }) hv hx hj hi h hmi hm ha hg hset k n
/-! range(a, b, c) -/
def rngC (a b s : Int) : Option (List Int) := if s ≠ 0 ∧ s.natAbs < 1073741824 ∧ Builtin.Range.small a b s = true then some ((List.range (Builtin.Range.rangeSize a b s).toNat).map fun (i : Nat) => a + (i : Int) * s) else none
theorem goes_rngC {lo s : Int} {n : Nat} : Goes (Itc lo s n) F rInt ((List.range n).map fun (i : Nat) => lo + (i : Int) * s) where
  go := fun i d hd c F' cs H e k => by
    rw [List.getElem?_map] at hd
    by_cases q : i < n
    · rw [List.getElem?_range q] at hd
      cases hd
      refine ⟨q, fun x H' y => ?_⟩
      obtain ⟨y1, y2⟩ := y
      subst y1 y2
      exact ⟨F', Evl.Ex.refl _, fun _ _ k => k, rfl⟩
    · rw [List.getElem?_eq_none (by rw [List.length_range]; omega)] at hd
      cases hd
  stop := fun c F' cs H e k => by
    show n ≤ _
    rw [List.length_map, List.length_range]
    exact Nat.le_refl _
theorem ei_rng3 {cs : Cs} {ta tb tc : TE} {m n o : Option Int} (h1 : EM rInt ta σ F cs m) (h2 : EM rInt tb σ F cs n) (h3 : EM rInt tc σ F cs o) : EI rInt (iRng3 (tCons ta (tCons tb (tCons tc tNil)))) σ F cs (o3 rngC m n o) := fun ds q c F1 H e k R hR => by
  obtain ⟨i, j, s, q1, q2, q3, q4⟩ := o3_some q
  unfold rngC at q4
  split at q4
  · rename_i g
    cases q4
    refine h1 i q1 c F1 H e k _ fun v F2 H2 e2 k2 r2 => h2 j q2 c F2 H2 (e.trans e2) k2 _ fun w F3 H3 e3 k3 r3 => h3 s q3 c F3 H3 ((e.trans e2).trans e3) k3 _ fun x F4 H4 e4 k4 r4 => ?_
    cases r2
    cases r3
    cases r4
    refine ⟨i, j, s, (Builtin.Range.rangeSize i j s).toNat, rfl, ⟨g.1, g.2.1, g.2.2, ?_⟩, hR _ F4 H4 ((e2.trans e3).trans e4) k4 goes_rngC⟩
    exact PyProof.Rows.rangeSize_toNat i j s
  · cases q4
/-! a op b op c -/
def oChain (ma mb : Option Int) (g g2 : Int → Int → Option Bool) (mc : Option Int) : Option Bool := ma.bind fun a => mb.bind fun b => (g a b).bind fun k => if k = true then mc.bind fun c => g2 b c else some false
theorem em_chain {rd rd2 : R2} {g g2 : Int → Int → Option Bool} {ta tb tc : TE} {ma mb mc : Option Int} (hv : VO rd rInt rInt rBool g) (hv2 : VO rd2 rInt rInt rBool g2) (ha : EM rInt ta σ F cs ma) (hb : EM rInt tb σ F cs mb) (hc : EM rInt tc σ F cs mc) : EM rBool (tChain rd rd2 ta tb tc) σ F cs (oChain ma mb g g2 mc) := fun d q c F1 H e k Q hQ => by
  obtain ⟨a, q1, q⟩ := bind_some q
  obtain ⟨b, q2, q⟩ := bind_some q
  obtain ⟨kk, q3, q⟩ := bind_some q
  refine ha a q1 c F1 H e k _ fun v F2 H2 e2 k2 r2 => hb b q2 c F2 H2 (e.trans e2) k2 _ fun w F3 H3 e3 k3 r3 => hv c F3 cs H3 v w a b kk k3 (rInt.up e3 r2) r3 q3 _ fun z F4 H4 e4 k4 r4 => ⟨kk, r4, ?_⟩
  cases kk with
  | true =>
    obtain ⟨x, q5, q6⟩ := bind_some q
    show tc σ H4 _
    refine hc x q5 c F4 H4 (((e.trans e2).trans e3).trans e4) k4 _ fun y F5 H5 e5 k5 r5 => hv2 c F5 cs H5 w y b x d k5 (rInt.up (e4.trans e5) r3) r5 q6 _ fun z F6 H6 e6 k6 r6 => hQ z F6 H6 ((((e2.trans e3).trans e4).trans e5).trans e6) k6 r6
  | false =>
    cases q
    exact hQ _ F4 H4 ((e2.trans e3).trans e4) k4 rfl
end
/-! the rules, the known part of the heap named -/
section
variable {X : Cx} (K : PySem.W.Frag) (h : X.K = K)
include h
theorem ix_tupK : IxR X (rIxT K) := h ▸ ix_tup
theorem ix_listK : IxR X (rIxL K) := h ▸ ix_list
theorem sl_tupK : SlR X (rSlT K) := h ▸ sl_tup
theorem sl_tupAK : SlR X (rSlA K) := h ▸ sl_tupA
theorem sl_listK : SlR X (rSlL K) := h ▸ sl_list
theorem op_catAK : OpR X (binaryOp .Add) (rCatA K) := h ▸ op_catA
theorem op_catWK : OpR X (binaryOp .Add) (rCatW K) := h ▸ op_catW
theorem op_repTK : OpR X (binaryOp .Mult) (rRepT K) := h ▸ op_repT
theorem op_in_seqK : OpR X (compareOp .In) (rIn K false) := h ▸ op_in_seq
theorem op_notIn_seqK : OpR X (compareOp .NotIn) (rIn K true) := h ▸ op_notIn_seq
theorem op_inDK (hu : X.A.units + 65 < cLine) : OpR X (compareOp .In) (rInD K) := h ▸ op_inD hu
theorem op_notInDK (hu : X.A.units + 65 < cLine) : OpR X (compareOp .NotIn) (rNotInD K) := h ▸ op_notInD hu
theorem op_eqDK (hu : X.A.units + 64 < cLine) : OpR X (compareOp .Eq) (rEqD K) := h ▸ op_eqD hu
theorem op_neDK (hu : X.A.units + 64 < cLine) : OpR X (compareOp .NotEq) (rNeD K) := h ▸ op_neD hu
theorem cr_maxK (hc : X.calm = true) : CallR X (.builtin "max") (rMax K) := h ▸ cr_max hc
theorem cr_minK2 (hc : X.calm = true) : CallR X (.builtin "min") (rMin K) := h ▸ cr_min hc
theorem cr_sumK (hc : X.calm = true) : CallR X (.builtin "sum") (rSum K) := h ▸ cr_sum hc
theorem cr_anyK (hc : X.calm = true) : CallR X (.builtin "any") (rAny K) := h ▸ cr_any hc
theorem cr_allK (hc : X.calm = true) : CallR X (.builtin "all") (rAll K) := h ▸ cr_all hc
theorem call_isiK2 : CallR X (.builtin "isinstance") (rIsi K) := h ▸ call_isi
theorem call_len_seqK : CallR X (.builtin "len") (fun xs H Q => ∃ p ys, xs = [.ref p] ∧ (SqL K H p ys ∨ SqT K H p ys) ∧ Q (.int ys.length) H) := h ▸ call_len_seq
theorem call_tuple_ofK : CallR X (.type "tuple") (fun xs H Q => ∃ p ys, xs = [.ref p] ∧ ((SqL K H p ys ∧ ∀ l, H l = none → Q (.ref l) (upd H l (.tup ys))) ∨ (SqT K H p ys ∧ Q (.ref p) H))) := h ▸ call_tuple_of
theorem call_list_ofK : CallR X (.type "list") (fun xs H Q => ∃ p ys, xs = [.ref p] ∧ (SqL K H p ys ∨ SqT K H p ys) ∧ ∀ l, H l = none → Q (.ref l) (upd H l (.lst ys))) := h ▸ call_list_of
theorem pi_listK {tg l : Expr} {tl : TE} (hl : PE X l tl) : PI X tg l (iList K tl) := h ▸ pi_list hl
theorem pi_tupK {tg l : Expr} {tl : TE} (hl : PE X l tl) : PI X tg l (iTup K tl) := h ▸ pi_tup hl
theorem pi_zipAK {e e2 : Expr} {ta : TA} {p pos tpos : Pos} {elts : List Expr} {kk : Nat} (hg : Gl X "zip") (hm : X.mg "zip" = none) (ha : PA X [e, e2] ta)
    (hs : starEach [e, e2] X.env = (false, eval e X.env) :: starEach [e2] X.env := by rfl) (hpl : (backTo pos (starEach [e2] X.env)).any (·.1) = false := by rfl) :
    PI X (.Tuple elts kk tpos) (.Call (.Name "zip" p) [e, e2] [] pos) (RZ.iZipA K ta) := h ▸ RZ.pi_zipA hg hm ha hs hpl
theorem pa_starK {e : Expr} {es : List Expr} {p : Pos} {te : TE} {t : TA} (he : PE X e te) (hr : PA X es t) (hs : starEach (.Starred e p :: es) X.env = (true, eval e X.env) :: starEach es X.env := by rfl) : PA X (.Starred e p :: es) (tStar K te t) := h ▸ pa_star he hr hs
end
theorem pe_revTK {X : Cx} (K : PySem.W.Frag) (h : X.K = K) {e : Expr} {te : TE} {k : Nat} {p1 p2 p3 pos : Pos} (he : PE X e te) : PE X (.Subscript e (.Slice none none (some (.UnaryOp .USub (.Constant (.int 1) k p1) p2)) p3) pos) (tRevT K te) := h ▸ pe_revT he
section
variable {σ : L2.St} {F : Hp} {cs : Cs}
theorem em_Pcall1t {α1 ρ : Type} {r1 : Rp α1} {rr : Rp ρ} {E : XK} {t1 : TE} {m : α1 → Option (ρ)} {a1 : α1} (h1 : EM r1 t1 σ F cs (some a1)) : EM rr (tCall (Psp1 r1 rr m) [] E (tCons t1 tNil)) σ F cs (m a1) := em_Pcall1 h1
theorem em_Fcall1t {α1 ρ : Type} {r1 : Rp α1} {rr : Rp ρ} {E : XK} {t1 : TE} {m : α1 → Option (List ρ)} {a1 : α1} (h1 : EM r1 t1 σ F cs (some a1)) : EF rr (tCall (Fsp1 r1 rr m) [] E (tCons t1 tNil)) σ F cs (m a1) := em_Fcall1 h1
theorem em_Pcall2t {α1 α2 ρ : Type} {r1 : Rp α1} {r2 : Rp α2} {rr : Rp ρ} {E : XK} {t1 t2 : TE} {m : α1 → α2 → Option (ρ)} {a1 : α1} {a2 : α2} (h1 : EM r1 t1 σ F cs (some a1)) (h2 : EM r2 t2 σ F cs (some a2)) : EM rr (tCall (Psp2 r1 r2 rr m) [] E (tCons t1 (tCons t2 tNil))) σ F cs (m a1 a2) := em_Pcall2 h1 h2
theorem em_Fcall2t {α1 α2 ρ : Type} {r1 : Rp α1} {r2 : Rp α2} {rr : Rp ρ} {E : XK} {t1 t2 : TE} {m : α1 → α2 → Option (List ρ)} {a1 : α1} {a2 : α2} (h1 : EM r1 t1 σ F cs (some a1)) (h2 : EM r2 t2 σ F cs (some a2)) : EF rr (tCall (Fsp2 r1 r2 rr m) [] E (tCons t1 (tCons t2 tNil))) σ F cs (m a1 a2) := em_Fcall2 h1 h2
theorem em_Pcall3t {α1 α2 α3 ρ : Type} {r1 : Rp α1} {r2 : Rp α2} {r3 : Rp α3} {rr : Rp ρ} {E : XK} {t1 t2 t3 : TE} {m : α1 → α2 → α3 → Option (ρ)} {a1 : α1} {a2 : α2} {a3 : α3} (h1 : EM r1 t1 σ F cs (some a1)) (h2 : EM r2 t2 σ F cs (some a2)) (h3 : EM r3 t3 σ F cs (some a3)) : EM rr (tCall (Psp3 r1 r2 r3 rr m) [] E (tCons t1 (tCons t2 (tCons t3 tNil)))) σ F cs (m a1 a2 a3) := em_Pcall3 h1 h2 h3
theorem em_Fcall3t {α1 α2 α3 ρ : Type} {r1 : Rp α1} {r2 : Rp α2} {r3 : Rp α3} {rr : Rp ρ} {E : XK} {t1 t2 t3 : TE} {m : α1 → α2 → α3 → Option (List ρ)} {a1 : α1} {a2 : α2} {a3 : α3} (h1 : EM r1 t1 σ F cs (some a1)) (h2 : EM r2 t2 σ F cs (some a2)) (h3 : EM r3 t3 σ F cs (some a3)) : EF rr (tCall (Fsp3 r1 r2 r3 rr m) [] E (tCons t1 (tCons t2 (tCons t3 tNil)))) σ F cs (m a1 a2 a3) := em_Fcall3 h1 h2 h3
theorem em_Pcall4t {α1 α2 α3 α4 ρ : Type} {r1 : Rp α1} {r2 : Rp α2} {r3 : Rp α3} {r4 : Rp α4} {rr : Rp ρ} {E : XK} {t1 t2 t3 t4 : TE} {m : α1 → α2 → α3 → α4 → Option (ρ)} {a1 : α1} {a2 : α2} {a3 : α3} {a4 : α4} (h1 : EM r1 t1 σ F cs (some a1)) (h2 : EM r2 t2 σ F cs (some a2)) (h3 : EM r3 t3 σ F cs (some a3)) (h4 : EM r4 t4 σ F cs (some a4)) : EM rr (tCall (Psp4 r1 r2 r3 r4 rr m) [] E (tCons t1 (tCons t2 (tCons t3 (tCons t4 tNil))))) σ F cs (m a1 a2 a3 a4) := em_Pcall4 h1 h2 h3 h4
theorem em_Fcall4t {α1 α2 α3 α4 ρ : Type} {r1 : Rp α1} {r2 : Rp α2} {r3 : Rp α3} {r4 : Rp α4} {rr : Rp ρ} {E : XK} {t1 t2 t3 t4 : TE} {m : α1 → α2 → α3 → α4 → Option (List ρ)} {a1 : α1} {a2 : α2} {a3 : α3} {a4 : α4} (h1 : EM r1 t1 σ F cs (some a1)) (h2 : EM r2 t2 σ F cs (some a2)) (h3 : EM r3 t3 σ F cs (some a3)) (h4 : EM r4 t4 σ F cs (some a4)) : EF rr (tCall (Fsp4 r1 r2 r3 r4 rr m) [] E (tCons t1 (tCons t2 (tCons t3 (tCons t4 tNil))))) σ F cs (m a1 a2 a3 a4) := em_Fcall4 h1 h2 h3 h4
theorem em_Pcall5t {α1 α2 α3 α4 α5 ρ : Type} {r1 : Rp α1} {r2 : Rp α2} {r3 : Rp α3} {r4 : Rp α4} {r5 : Rp α5} {rr : Rp ρ} {E : XK} {t1 t2 t3 t4 t5 : TE} {m : α1 → α2 → α3 → α4 → α5 → Option (ρ)} {a1 : α1} {a2 : α2} {a3 : α3} {a4 : α4} {a5 : α5} (h1 : EM r1 t1 σ F cs (some a1)) (h2 : EM r2 t2 σ F cs (some a2)) (h3 : EM r3 t3 σ F cs (some a3)) (h4 : EM r4 t4 σ F cs (some a4)) (h5 : EM r5 t5 σ F cs (some a5)) : EM rr (tCall (Psp5 r1 r2 r3 r4 r5 rr m) [] E (tCons t1 (tCons t2 (tCons t3 (tCons t4 (tCons t5 tNil)))))) σ F cs (m a1 a2 a3 a4 a5) := em_Pcall5 h1 h2 h3 h4 h5
theorem em_Fcall5t {α1 α2 α3 α4 α5 ρ : Type} {r1 : Rp α1} {r2 : Rp α2} {r3 : Rp α3} {r4 : Rp α4} {r5 : Rp α5} {rr : Rp ρ} {E : XK} {t1 t2 t3 t4 t5 : TE} {m : α1 → α2 → α3 → α4 → α5 → Option (List ρ)} {a1 : α1} {a2 : α2} {a3 : α3} {a4 : α4} {a5 : α5} (h1 : EM r1 t1 σ F cs (some a1)) (h2 : EM r2 t2 σ F cs (some a2)) (h3 : EM r3 t3 σ F cs (some a3)) (h4 : EM r4 t4 σ F cs (some a4)) (h5 : EM r5 t5 σ F cs (some a5)) : EF rr (tCall (Fsp5 r1 r2 r3 r4 r5 rr m) [] E (tCons t1 (tCons t2 (tCons t3 (tCons t4 (tCons t5 tNil)))))) σ F cs (m a1 a2 a3 a4 a5) := em_Fcall5 h1 h2 h3 h4 h5
theorem em_Pcall6t {α1 α2 α3 α4 α5 α6 ρ : Type} {r1 : Rp α1} {r2 : Rp α2} {r3 : Rp α3} {r4 : Rp α4} {r5 : Rp α5} {r6 : Rp α6} {rr : Rp ρ} {E : XK} {t1 t2 t3 t4 t5 t6 : TE} {m : α1 → α2 → α3 → α4 → α5 → α6 → Option (ρ)} {a1 : α1} {a2 : α2} {a3 : α3} {a4 : α4} {a5 : α5} {a6 : α6} (h1 : EM r1 t1 σ F cs (some a1)) (h2 : EM r2 t2 σ F cs (some a2)) (h3 : EM r3 t3 σ F cs (some a3)) (h4 : EM r4 t4 σ F cs (some a4)) (h5 : EM r5 t5 σ F cs (some a5)) (h6 : EM r6 t6 σ F cs (some a6)) : EM rr (tCall (Psp6 r1 r2 r3 r4 r5 r6 rr m) [] E (tCons t1 (tCons t2 (tCons t3 (tCons t4 (tCons t5 (tCons t6 tNil))))))) σ F cs (m a1 a2 a3 a4 a5 a6) := em_Pcall6 h1 h2 h3 h4 h5 h6
theorem em_Fcall6t {α1 α2 α3 α4 α5 α6 ρ : Type} {r1 : Rp α1} {r2 : Rp α2} {r3 : Rp α3} {r4 : Rp α4} {r5 : Rp α5} {r6 : Rp α6} {rr : Rp ρ} {E : XK} {t1 t2 t3 t4 t5 t6 : TE} {m : α1 → α2 → α3 → α4 → α5 → α6 → Option (List ρ)} {a1 : α1} {a2 : α2} {a3 : α3} {a4 : α4} {a5 : α5} {a6 : α6} (h1 : EM r1 t1 σ F cs (some a1)) (h2 : EM r2 t2 σ F cs (some a2)) (h3 : EM r3 t3 σ F cs (some a3)) (h4 : EM r4 t4 σ F cs (some a4)) (h5 : EM r5 t5 σ F cs (some a5)) (h6 : EM r6 t6 σ F cs (some a6)) : EF rr (tCall (Fsp6 r1 r2 r3 r4 r5 r6 rr m) [] E (tCons t1 (tCons t2 (tCons t3 (tCons t4 (tCons t5 (tCons t6 tNil))))))) σ F cs (m a1 a2 a3 a4 a5 a6) := em_Fcall6 h1 h2 h3 h4 h5 h6
end
theorem rel_getD {vs : List V} {us : List Value} (r : Vals vs us) : ∀ i : Nat, RelV (vs.getD i .non) (us.getD i .none) := by
  induction r with
  | nil => intro i; exact (rfl : Value.none = Value.none)
  | cons h _ ih =>
    intro i
    cases i with
    | zero => exact h
    | succ i => exact ih i
end Mw

set_option maxHeartbeats 2000000
/-! objects of a class of the program: two fields, set by __init__ and then only read -/
namespace Mw
open PySem L2
open Evl (Ex)
section
variable {α β : Type}
def rO2 (C : Addr) (n1 n2 : Str) (ra : Rp α) (rb : Rp β) : Rp (α × β) := ⟨fun H v d => ∃ a dx v1 v2, v = .ref a ∧ H a = some (.ins C dx [(n1, v1), (n2, v2)]) ∧ ra.r H v1 d.1 ∧ rb.r H v2 d.2,
  fun e ⟨a, dx, v1, v2, h1, h2, h3, h4⟩ => ⟨a, dx, v1, v2, h1, e _ _ h2, ra.up e h3, rb.up e h4⟩⟩
/-- an object being made: the fields so far -/
def cO2 (C : Addr) (n1 n2 : Str) (ra : Rp α) (rb : Rp β) (s : Option α × Option β) : Cp := ⟨fun F o => ∃ dx vs, o = .ins C dx vs ∧ match s with
  | (none, none) => vs = []
  | (some a, none) => ∃ v, vs = [(n1, v)] ∧ ra.r F v a
  | (some a, some b) => ∃ v w, vs = [(n1, v), (n2, w)] ∧ ra.r F v a ∧ rb.r F w b
  | (none, some _) => False, fun {H H' o} e ⟨dx, vs, h1, h2⟩ => ⟨dx, vs, h1, match s, h2 with
  | (none, none), h => h
  | (some a, none), ⟨v, h3, h4⟩ => ⟨v, h3, ra.up e h4⟩
  | (some a, some b), ⟨v, w, h3, h4, h5⟩ => ⟨v, w, h3, ra.up e h4, rb.up e h5⟩⟩, fun ⟨_, _, h, _⟩ => by subst h; trivial⟩
def finO2 (s : Option α × Option β) : Option (α × β) := match s with
  | (some a, some b) => some (a, b)
  | _ => none
def putA (s : Option α × Option β) (a : α) : Option (Option α × Option β) := match s with
  | (none, none) => some (some a, none)
  | _ => none
def putB (s : Option α × Option β) (b : β) : Option (Option α × Option β) := match s with
  | (some a, none) => some (some a, some b)
  | _ => none
end
section
variable {α β α1 α2 ρ : Type} {ra : Rp α} {rb : Rp β} {r1 : Rp α1} {r2 : Rp α2} {rr : Rp ρ} {C : Addr} {n1 n2 : Str} {σ : L2.St} {F H : Hp} {cs : Cs} {K : PySem.W.Frag} {te t1 t2 : TE} {D : Ends} {c : Act} {tz : TS} {E : XK}
theorem em_fld1 {m : Option (α × β)} (hC : Cls K C) (hn : NoAttr K C n1) (h : EM (rO2 C n1 n2 ra rb) te σ F cs m) : EM ra (tFld K te n1) σ F cs (m.map fun z => z.1) := fun d q c F1 H e k Q hQ => by
  cases m with
  | none => cases q
  | some a =>
    cases q
    refine h a rfl c F1 H e k _ fun v F2 H2 e2 k2 r2 => ?_
    obtain ⟨p, dx, v1, v2, rfl, h1, h2, h3⟩ := r2
    exact ⟨p, C, dx, _, v1, rfl, k2.ex _ _ h1, hC, hn, by simp [List.lookup], hQ v1 F2 H2 e2 k2 h2⟩
theorem em_fld2 {m : Option (α × β)} (hC : Cls K C) (hn : NoAttr K C n2) (h12 : (n2 == n1) = false) (h : EM (rO2 C n1 n2 ra rb) te σ F cs m) : EM rb (tFld K te n2) σ F cs (m.map fun z => z.2) := fun d q c F1 H e k Q hQ => by
  cases m with
  | none => cases q
  | some a =>
    cases q
    refine h a rfl c F1 H e k _ fun v F2 H2 e2 k2 r2 => ?_
    obtain ⟨p, dx, v1, v2, rfl, h1, h2, h3⟩ := r2
    exact ⟨p, C, dx, _, v2, rfl, k2.ex _ _ h1, hC, hn, by simp [List.lookup, h12], hQ v2 F2 H2 e2 k2 h3⟩
/-- self.f = e, the first field -/
theorem a_put1 {i j : Nat} {p : Addr} {a : α} {s s' : Option α × Option β} {m : Option α} (hC : Cls K C) (hn : NoAttr K C n1) (hx : σ[i]? = some (some (.ref p))) (hj : cs[j]? = some (p, cO2 C n1 n2 ra rb s)) (h : EM ra te σ F cs m) (hm : m = some a) (hs : putA s a = some s') (k : Cov c F cs H)
    (n : ∀ F2 H2, Ex F F2 → Cov c F2 (cs.set j (p, cO2 C n1 n2 ra rb s')) H2 → D.nx σ H2) : sFld K (tVar i) te n1 D σ H := by
  refine h a hm c F H (Evl.Ex.refl _) k _ fun v F2 H2 e2 k2 r2 => ⟨_, hx, ?_⟩
  obtain ⟨_, _, o, g3, dx, vs, rfl, g4⟩ := k2.at_ j hj
  match s, g4, hs with
  | (none, none), g4, hs =>
    cases hs
    have g4 : vs = [] := g4
    subst g4
    exact ⟨p, C, dx, [], rfl, g3, hC, hn, by decide, n F2 _ e2 (k2.set j hj ⟨dx, _, rfl, v, rfl, r2⟩)⟩
theorem q_put1 {i j : Nat} {p : Addr} {a : α} {s s' : Option α × Option β} {m : Option α} (hC : Cls K C) (hn : NoAttr K C n1) (hx : σ[i]? = some (some (.ref p))) (hj : cs[j]? = some (p, cO2 C n1 n2 ra rb s)) (h : EM ra te σ F cs m) (hm : m = some a) (hs : putA s a = some s') (k : Cov c F cs H)
    (n : ∀ F2 H2, Ex F F2 → Cov c F2 (cs.set j (p, cO2 C n1 n2 ra rb s')) H2 → tz D σ H2) : tSeq (sFld K (tVar i) te n1) tz D σ H := a_put1 (D := { D with nx := tz D }) hC hn hx hj h hm hs k n
theorem a_put2 {i j : Nat} {p : Addr} {b : β} {s s' : Option α × Option β} {m : Option β} (hC : Cls K C) (hn : NoAttr K C n2) (h12 : ¬ n1 = n2) (hx : σ[i]? = some (some (.ref p))) (hj : cs[j]? = some (p, cO2 C n1 n2 ra rb s)) (h : EM rb te σ F cs m) (hm : m = some b) (hs : putB s b = some s') (k : Cov c F cs H)
    (n : ∀ F2 H2, Ex F F2 → Cov c F2 (cs.set j (p, cO2 C n1 n2 ra rb s')) H2 → D.nx σ H2) : sFld K (tVar i) te n2 D σ H := by
  refine h b hm c F H (Evl.Ex.refl _) k _ fun v F2 H2 e2 k2 r2 => ⟨_, hx, ?_⟩
  obtain ⟨_, _, o, g3, dx, vs, rfl, g4⟩ := k2.at_ j hj
  match s, g4, hs with
  | (some a, none), g4, hs =>
    cases hs
    obtain ⟨w, rfl, g5⟩ := g4
    have e : putF n2 v [(n1, w)] = [(n1, w), (n2, v)] := by
      show (if n1 = n2 then _ else (n1, w) :: putF n2 v []) = _
      rw [if_neg h12]
      rfl
    refine ⟨p, C, dx, _, rfl, g3, hC, hn, (by show 1 < 1000; decide), ?_⟩
    rw [e]
    exact n F2 _ e2 (k2.set j hj ⟨dx, _, rfl, w, v, rfl, g5, r2⟩)
theorem q_put2 {i j : Nat} {p : Addr} {b : β} {s s' : Option α × Option β} {m : Option β} (hC : Cls K C) (hn : NoAttr K C n2) (h12 : ¬ n1 = n2) (hx : σ[i]? = some (some (.ref p))) (hj : cs[j]? = some (p, cO2 C n1 n2 ra rb s)) (h : EM rb te σ F cs m) (hm : m = some b) (hs : putB s b = some s') (k : Cov c F cs H)
    (n : ∀ F2 H2, Ex F F2 → Cov c F2 (cs.set j (p, cO2 C n1 n2 ra rb s')) H2 → tz D σ H2) : tSeq (sFld K (tVar i) te n2) tz D σ H := a_put2 (D := { D with nx := tz D }) hC hn h12 hx hj h hm hs k n
/-- C(e1, e2) -/
theorem em_make2 {m : Option α × Option β → α1 → α2 → Option (Unit × (Option α × Option β))} {m1 : Option α1} {m2 : Option α2} (h1 : EM r1 t1 σ F cs m1) (h2 : EM r2 t2 σ F cs m2) :
    EM (rO2 C n1 n2 ra rb) (tMake C (MPsp2 (cO2 C n1 n2 ra rb) r1 r2 rNon m) [] E (tCons t1 (tCons t2 tNil))) σ F cs (o2 (fun a b => (m (none, none) a b).bind fun r => finO2 r.2) m1 m2) := fun d q c F0 H0 e0 k0 Q hQ => by
  obtain ⟨a, b, q1, q2, q3⟩ := o2_some q
  obtain ⟨⟨⟨⟩, s2⟩, q4, q5⟩ := bind_some q3
  refine h1 a q1 c F0 H0 e0 k0 _ fun v1 F1 H1 e1 k1 x1 => h2 b q2 c F1 H1 (e0.trans e1) k1 _ fun v2 F2 H2 e2 k2 x2 => ?_
  intro x dx hx hdx hne
  have f2 := k2.fnone hdx
  -- the dict's record is frozen, the object owned
  have k3 := k2.lay (o := .own x) hdx
  have hx3 : upd H2 dx (.own x) x = none := by rw [upd_ne (fun z => hne z.symm)]; exact hx
  have k4 := k3.own0 (o := .ins C dx []) (x := cO2 C n1 n2 ra rb (none, none)) hx3 ⟨dx, [], rfl, rfl⟩
  have e3 := Ex.new (o := HO.own x) f2
  refine ⟨_, x, v1, v2, (none, none), a, b, (), s2, rfl, (k4.keepN 1).base, r1.up (e2.trans e3) x1, r2.up e3 x2, q4, fun v F9 H9 k9 r9 => ⟨r9, ?_⟩⟩
  have k5 := k4.call1 k9
  obtain ⟨f1, _, o, g3, dy, vs, rfl, g4⟩ := k5.head
  match s2, g4, q5 with
  | (some a', some b'), ⟨v, w, hv, g5, g6⟩, q5 =>
    cases q5
    subst hv
    have hn : c.H0 x = none := k2.dom x hx
    have k6 := k5.freeze g3 hn
    exact hQ (.ref x) _ H9 ((((e1.trans e2).trans e3).trans k9.fz).trans (Ex.new f1)) k6 ⟨x, dy, v, w, rfl, upd_same, ra.up (Ex.new f1) g5, rb.up (Ex.new f1) g6⟩
/-- o.m(), o.m(e) -/
theorem em_meth0 {m : Str} {g : α × β → Option ρ} {m0 : Option (α × β)} (hm1 : (m == n1) = false) (hm2 : (m == n2) = false) (h : EM (rO2 C n1 n2 ra rb) te σ F cs m0) : EM rr (tMeth C m (Psp1 (rO2 C n1 n2 ra rb) rr g) [] E te tNil) σ F cs (o1 g m0) := fun d q c F0 H0 e0 k0 Q hQ => by
  obtain ⟨a, q1, q2⟩ := o1_some q
  refine h a q1 c F0 H0 e0 k0 _ fun v F1 H1 e1 k1 x1 => ?_
  obtain ⟨p, dx, v1, v2, rfl, g1, g2, g3⟩ := x1
  refine ⟨p, dx, _, rfl, k1.ex _ _ g1, by simp [List.lookup, hm1, hm2], ?_⟩
  exact ⟨F1, .ref p, a, d, rfl, k1.ex, ⟨p, dx, v1, v2, rfl, g1, g2, g3⟩, q2, fun v F9 H9 k9 r9 => hQ v F9 H9 (e1.trans k9.fz) (k1.call0 k9) r9⟩
theorem em_meth0F {m : Str} {g : α × β → Option (List ρ)} {m0 : Option (α × β)} (hm1 : (m == n1) = false) (hm2 : (m == n2) = false) (h : EM (rO2 C n1 n2 ra rb) te σ F cs m0) : EF rr (tMeth C m (Fsp1 (rO2 C n1 n2 ra rb) rr g) [] E te tNil) σ F cs (o1 g m0) := fun d q c F0 H0 e0 k0 Q hQ => by
  obtain ⟨a, q1, q2⟩ := o1_some q
  refine h a q1 c F0 H0 e0 k0 _ fun v F1 H1 e1 k1 x1 => ?_
  obtain ⟨p, dx, v1, v2, rfl, g1, g2, g3⟩ := x1
  refine ⟨p, dx, _, rfl, k1.ex _ _ g1, by simp [List.lookup, hm1, hm2], ?_⟩
  exact ⟨F1, .ref p, a, d, rfl, k1.ex, ⟨p, dx, v1, v2, rfl, g1, g2, g3⟩, q2, fun p F9 H9 k9 => hQ p F9 H9 (e1.trans k9.fz) (k1.call0n k9) (k1.dom p (Or.resolve_left (k9.old_new (p, cLst rr d) List.mem_cons_self) List.not_mem_nil))⟩
theorem em_meth1 {m : Str} {g : α × β → α1 → Option ρ} {m0 : Option (α × β)} {m1 : Option α1} (hm1 : (m == n1) = false) (hm2 : (m == n2) = false) (h : EM (rO2 C n1 n2 ra rb) te σ F cs m0) (h1 : EM r1 t1 σ F cs m1) : EM rr (tMeth C m (Psp2 (rO2 C n1 n2 ra rb) r1 rr g) [] E te (tCons t1 tNil)) σ F cs (o2 g m0 m1) := fun d q c F0 H0 e0 k0 Q hQ => by
  obtain ⟨a, b, q1, q2, q3⟩ := o2_some q
  refine h a q1 c F0 H0 e0 k0 _ fun v F1 H1 e1 k1 x1 => ?_
  obtain ⟨p, dx, v1, v2, rfl, g1, g2, g3⟩ := x1
  refine ⟨p, dx, _, rfl, k1.ex _ _ g1, by simp [List.lookup, hm1, hm2], ?_⟩
  refine h1 b q2 c F1 H1 (e0.trans e1) k1 _ fun w F2 H2 e2 k2 x2 => ?_
  exact ⟨F2, .ref p, w, a, b, d, rfl, k2.ex, (rO2 C n1 n2 ra rb).up e2 ⟨p, dx, v1, v2, rfl, g1, g2, g3⟩, x2, q3, fun v F9 H9 k9 r9 => hQ v F9 H9 ((e1.trans e2).trans k9.fz) (k2.call0 k9) r9⟩
end

/-- o.m(k = v, ..) -/
def tMethN (C : Addr) (m : Str) (nk : Nat) (sp : Sp) (gV : List V → List V → List V) (E : XK) (ta : TE) (tk : TA) : TE := fun σ H Q => ta σ H fun x H1 => ∃ a dx fs, x = .ref a ∧ H1 a = some (.ins C dx fs) ∧ fs.lookup m = none ∧ tk σ H1 fun zs H2 => zs.length = nk ∧ sp (gV [x] zs) H2 Q E
theorem pe_methN0 {X : Cx} {CX : CXT} {k : Nat} {f C : Addr} {fd : FuncData} {ps ks : List Str} {sp : Sp} {E : XK} {m : Str} {pos apos : Pos} {o : Expr} {kws : List Keyword} {ta : TE} {tk : TA} {g : List Value → List Value → List Value} {gV : List V → List V → List V} {pl : Sem Bool} (he : PE X o ta) (c : Cls X.K C) (hm : Meth X.K C m f) (F : FnOk X.prog X.w X.K X.mg X.base CX k f fd ps sp) (hr : Room k X.A) (hb : KBn X.K fd ps 1 ks g gV) (hx : Passes CX X E)
    (hkw : PK X kws tk) (hall : (backToKw pos (keywordEach kws X.env)).all (·.1.isSome) = true := by rfl) (hks : (backToKw pos (keywordEach kws X.env)).filterMap (·.1) = ks := by rfl)
    (hpl : ((backTo pos (starEach [] X.env)).any (·.1) || (backToKw pos (keywordEach kws X.env)).any (·.1.isNone)) = false := by rfl)
    (ht : eval (.Call (.Attribute o m apos) [] kws pos) X.env = (do
      let ov ← eval o X.env
      standAt apos.atName
      let (f, first) ← holding [ov] (getMethod ov m pl)
      callWith pos f first (backTo pos (starEach [] X.env)) (backToKw pos (keywordEach kws X.env))) := by rfl) :
    PE X (.Call (.Attribute o m apos) [] kws pos) (tMethN C m ks.length sp gV E ta tk) := by
  refine ⟨fun pins s σ H Q I h => ?_⟩
  refine PySem.W.methodCall_KW (pl := pl) (thn (he.run pins s σ H _ I h) fun u s1 ⟨x, H1, I1, rx, a, dx, fs, ex, ea, l, q⟩ => ?_) ht
  subst ex
  obtain rfl : u = Value.ref a := rx
  refine getmeth_ok I1 ea c hm l ?_
  refine PySem.W.callWith_KW0 (first := [.ref a]) (h₀ := X.base) I.ok.mod.kin hm.kp hall ?_ hpl
  refine thn (hkw.run pos pins s1 σ H1 _ I1 q) fun ws s2 ⟨zs, H2, I2, rz, l2, q2⟩ => ⟨I2.kIn, ?_⟩
  rw [hks]
  exact run_fnN (us := [.ref a]) (vs := [.ref a]) F hr hb hx I2 (.cons rfl .nil) rz rfl l2 q2
theorem em_methN1 {α β α1 ρ : Type} {ra : Rp α} {rb : Rp β} {r1 : Rp α1} {rr : Rp ρ} {C : Addr} {n1 n2 m : Str} {σ : L2.St} {F : Hp} {cs : Cs} {te t1 : TE} {E : XK} {g : α × β → α1 → Option ρ} {m0 : Option (α × β)} {m1 : Option α1} (hm1 : (m == n1) = false) (hm2 : (m == n2) = false) (h : EM (rO2 C n1 n2 ra rb) te σ F cs m0) (h1 : EM r1 t1 σ F cs m1) : EM rr (tMethN C m 1 (Psp2 (rO2 C n1 n2 ra rb) r1 rr g) (fun vs zs => vs ++ zs) E te (tCons t1 tNil)) σ F cs (o2 g m0 m1) := fun d q c F0 H0 e0 k0 Q hQ => by
  obtain ⟨a, b, q1, q2, q3⟩ := o2_some q
  refine h a q1 c F0 H0 e0 k0 _ fun v F1 H1 e1 k1 x1 => ?_
  obtain ⟨p, dx, v1, v2, rfl, g1, g2, g3⟩ := x1
  refine ⟨p, dx, _, rfl, k1.ex _ _ g1, by simp [List.lookup, hm1, hm2], ?_⟩
  refine h1 b q2 c F1 H1 (e0.trans e1) k1 _ fun w F2 H2 e2 k2 x2 => ⟨rfl, ?_⟩
  exact ⟨F2, .ref p, w, a, b, d, rfl, k2.ex, (rO2 C n1 n2 ra rb).up e2 ⟨p, dx, v1, v2, rfl, g1, g2, g3⟩, x2, q3, fun v F9 H9 k9 r9 => hQ v F9 H9 ((e1.trans e2).trans k9.fz) (k2.call0 k9) r9⟩
structure CalM (P : Program) (w : World) (K : PySem.W.Frag) (mg : Str → Option Value) (base : Heap) (k : Nat) (C : Addr) (m : Str) (ps : List Str) (sp : Sp) (X : FuncData → Prop) : Prop where
  ex : ∃ f fd, FnOk P w K mg base CX0 k f fd ps sp ∧ Meth K C m f ∧ Binds K fd ps [] ∧ X fd
structure CalI (P : Program) (w : World) (K : PySem.W.Frag) (mg : Str → Option Value) (base : Heap) (k : Nat) (C : Addr) (ps : List Str) (sp : Sp) (X : FuncData → Prop) : Prop where
  ex : ∃ f fd, FnOk P w K mg base CX0 k f fd ps sp ∧ Mk K C f ∧ Binds K fd ps [] ∧ X fd
theorem pe_fldK {X : Cx} (K : PySem.W.Frag) (h : X.K = K) {e : Expr} {f : Str} {pos : Pos} {ta : TE} (he : PE X e ta) (hb : attributeBase e f X.env (eval e X.env) = eval e X.env) : PE X (.Attribute e f pos) (tFld K ta f) := h ▸ pe_fld he hb
theorem ef_revL {α : Type} {ra : Rp α} {σ : L2.St} {F : Hp} {cs : Cs} {K : PySem.W.Frag} {te : TE} {m : Option (List α)} (h : EL K ra te σ F cs m) : EF ra (tRevL K te) σ F cs (m.map List.reverse) := fun d q c F1 H e k Q hQ => by
  cases m with
  | none => cases q
  | some l =>
    cases q
    refine h l rfl c F1 H e k _ fun v F2 H2 e2 k2 r2 => ?_
    obtain ⟨a, vs, rfl, h1, h2⟩ := r2.see k2
    exact ⟨a, vs, rfl, h1, fun p hp => hQ p F2 _ e2 (k2.own hp ⟨_, rfl, h2.rev⟩) (k2.dom p hp)⟩
theorem pe_revLK {X : Cx} (K : PySem.W.Frag) (h : X.K = K) {e : Expr} {te : TE} {k : Nat} {p1 p2 p3 pos : Pos} (he : PE X e te) : PE X (.Subscript e (.Slice none none (some (.UnaryOp .USub (.Constant (.int 1) k p1) p2)) p3) pos) (tRevL K te) := h ▸ pe_revL he
/-- xs + ys, the second changing the followed cell -/
theorem sf_cat {α γ : Type} {ra : Rp α} {σ : L2.St} {F : Hp} {cs : γ → Cs} {s : γ} {ta tb : TE} {m1 : Option (List α × γ)} {m2 : γ → Option (List α × γ)} (ha : SM (rLst ra) ta σ F (cs s) m1 cs) (hb : ∀ s, SM (rLst ra) tb σ F (cs s) (m2 s) cs) : SF ra (tOp rCat ta tb) σ F (cs s) (s2 (fun a b s => sK s (catG a b)) m1 m2) cs := fun d g q c F1 H e k Q hQ => by
  unfold s2 at q
  obtain ⟨a, g1, q1, q⟩ := sC_some q
  obtain ⟨b, g2, q2, q⟩ := sC_some q
  obtain ⟨q3, eg⟩ := sP_some q
  subst eg
  obtain ⟨rfl, hz⟩ := catG_some q3
  refine ha a g1 q1 c F1 H e k _ fun v F2 H2 e2 k2 r2 => hb g1 b _ q2 c F2 H2 (e.trans e2) k2 _ fun w F3 H3 e3 k3 r3 => ?_
  obtain ⟨p, vs, rfl, h1, h2⟩ := (rLst ra).up e3 r2
  obtain ⟨p', ws, rfl, h3, h4⟩ := r3
  exact ⟨p, p', vs, ws, rfl, rfl, k3.ex _ _ h1, k3.ex _ _ h3, by rw [h2.length, h4.length]; exact sz_ok hz, fun l hl => hQ l F3 _ (e2.trans e3) (k3.own hl ⟨_, rfl, h2.append h4⟩) (k3.dom l hl)⟩
section
variable {α β γ δ : Type} {ra : Rp α} {rb : Rp β} {rc : Rp γ} {σ : L2.St} {F H : Hp} {cs : Cs} {K : PySem.W.Frag} {te : TE} {tz : TS} {D : Ends} {c : Act}
theorem a_unp3S {cs' : δ → Cs} {g : δ} {i j l : Nat} {d : α × β × γ} {m : Option ((α × β × γ) × δ)} (h : SM (rP3 K ra rb rc) te σ F cs m cs') (hm : m = some (d, g)) (k : Cov c F cs H) (n : ∀ v w x F2 H2, Ex F F2 → Cov c F2 (cs' g) H2 → ra.r F2 v d.1 → rb.r F2 w d.2.1 → rc.r F2 x d.2.2 → D.nx (((σ.set i (some v)).set j (some w)).set l (some x)) H2) : tAsg te (gTup K 3 (gCons (gName i) (gCons (gName j) (gCons (gName l) gNil)))) D σ H :=
  h d g hm c F H (Evl.Ex.refl _) k _ fun v F2 H2 e2 k2 r2 => by
    obtain ⟨a, v1, v2, v3, rfl, h1, h2, h3, h4⟩ := r2
    exact ⟨a, [v1, v2, v3], rfl, ext_ k2.ex h1, rfl, v1, [v2, v3], rfl, v2, [v3], rfl, v3, [], rfl, rfl, n v1 v2 v3 F2 H2 e2 k2 h2 h3 h4⟩
theorem q_unp3S {cs' : δ → Cs} {g : δ} {i j l : Nat} {d : α × β × γ} {m : Option ((α × β × γ) × δ)} (h : SM (rP3 K ra rb rc) te σ F cs m cs') (hm : m = some (d, g)) (k : Cov c F cs H) (n : ∀ v w x F2 H2, Ex F F2 → Cov c F2 (cs' g) H2 → ra.r F2 v d.1 → rb.r F2 w d.2.1 → rc.r F2 x d.2.2 → tz D (((σ.set i (some v)).set j (some w)).set l (some x)) H2) : tSeq (tAsg te (gTup K 3 (gCons (gName i) (gCons (gName j) (gCons (gName l) gNil))))) tz D σ H := a_unp3S (D := { D with nx := tz D }) h hm k n
end
end Mw

set_option maxHeartbeats 2000000
/-! is of bools; methods of any object (by position, by keywords), properties; a hook of my own for the head's facts -/
namespace Mw
open PySem L2
open Evl (Ex)
theorem vo_isBl : VO rIsB rBool rBool rBool eqG := fun c F cs H v w a b d k r1 r2 q Q hQ => by
  cases r1; cases r2; cases q
  exact ⟨_, _, rfl, rfl, hQ _ F H (Evl.Ex.refl _) k (congrArg V.bl (decide_eq_decide.mpr Iff.rfl))⟩
theorem vo_notBl : VO rNotB rBool rBool rBool neG := fun c F cs H v w a b d k r1 r2 q Q hQ => by
  cases r1; cases r2; cases q
  exact ⟨_, _, rfl, rfl, hQ _ F H (Evl.Ex.refl _) k (congrArg V.bl (congrArg not (decide_eq_decide.mpr Iff.rfl)))⟩
/-- values of ro are instances of C that have no attribute m of their own -/
def ObjM {ω : Type} (C : Addr) (m : Str) (ro : Rp ω) : Prop := ∀ F v a, ro.r F v a → ∃ p dx fs, v = .ref p ∧ F p = some (.ins C dx fs) ∧ fs.lookup m = none
def ObjP {ω : Type} (C : Addr) (ro : Rp ω) : Prop := ∀ F v a, ro.r F v a → ∃ p dx fs, v = .ref p ∧ F p = some (.ins C dx fs)
section
variable {α β ω α1 α2 ρ : Type} {ra : Rp α} {rb : Rp β} {ro : Rp ω} {r1 : Rp α1} {r2 : Rp α2} {rr : Rp ρ} {C : Addr} {n1 n2 m : Str} {σ : L2.St} {F : Hp} {cs : Cs} {K : PySem.W.Frag} {te t1 t2 : TE} {E : XK} {m0 : Option ω} {m1 : Option α1} {m2 : Option α2}
theorem objM_O2 (h1 : (m == n1) = false) (h2 : (m == n2) = false) : ObjM C m (rO2 C n1 n2 ra rb) := fun F v a ⟨p, dx, v1, v2, e, g, _, _⟩ => ⟨p, dx, _, e, g, by simp [List.lookup, h1, h2]⟩
theorem objP_O2 : ObjP C (rO2 C n1 n2 ra rb) := fun F v a ⟨p, dx, v1, v2, e, g, _, _⟩ => ⟨p, dx, _, e, g⟩
theorem em_gm0 {g : ω → Option ρ} (ho : ObjM C m ro) (h : EM ro te σ F cs m0) : EM rr (tMeth C m (Psp1 ro rr g) [] E te tNil) σ F cs (o1 g m0) := fun d q c F0 H0 e0 k0 Q hQ => by
  obtain ⟨a, q1, q2⟩ := o1_some q
  refine h a q1 c F0 H0 e0 k0 _ fun v F1 H1 e1 k1 x1 => ?_
  obtain ⟨p, dx, fs, rfl, g1, g2⟩ := ho _ _ _ x1
  refine ⟨p, dx, fs, rfl, k1.ex _ _ g1, g2, ?_⟩
  exact ⟨F1, .ref p, a, d, rfl, k1.ex, x1, q2, fun v F9 H9 k9 r9 => hQ v F9 H9 (e1.trans k9.fz) (k1.call0 k9) r9⟩
theorem em_gm0F {g : ω → Option (List ρ)} (ho : ObjM C m ro) (h : EM ro te σ F cs m0) : EF rr (tMeth C m (Fsp1 ro rr g) [] E te tNil) σ F cs (o1 g m0) := fun d q c F0 H0 e0 k0 Q hQ => by
  obtain ⟨a, q1, q2⟩ := o1_some q
  refine h a q1 c F0 H0 e0 k0 _ fun v F1 H1 e1 k1 x1 => ?_
  obtain ⟨p, dx, fs, rfl, g1, g2⟩ := ho _ _ _ x1
  refine ⟨p, dx, fs, rfl, k1.ex _ _ g1, g2, ?_⟩
  exact ⟨F1, .ref p, a, d, rfl, k1.ex, x1, q2, fun p F9 H9 k9 => hQ p F9 H9 (e1.trans k9.fz) (k1.call0n k9) (k1.dom p (Or.resolve_left (k9.old_new (p, cLst rr d) List.mem_cons_self) List.not_mem_nil))⟩
theorem em_gm1 {g : ω → α1 → Option ρ} (ho : ObjM C m ro) (h : EM ro te σ F cs m0) (h1 : EM r1 t1 σ F cs m1) : EM rr (tMeth C m (Psp2 ro r1 rr g) [] E te (tCons t1 tNil)) σ F cs (o2 g m0 m1) := fun d q c F0 H0 e0 k0 Q hQ => by
  obtain ⟨a, b, q1, q2, q3⟩ := o2_some q
  refine h a q1 c F0 H0 e0 k0 _ fun v F1 H1 e1 k1 x1 => ?_
  obtain ⟨p, dx, fs, rfl, g1, g2⟩ := ho _ _ _ x1
  refine ⟨p, dx, fs, rfl, k1.ex _ _ g1, g2, ?_⟩
  refine h1 b q2 c F1 H1 (e0.trans e1) k1 _ fun w F2 H2 e2 k2 x2 => ?_
  exact ⟨F2, .ref p, w, a, b, d, rfl, k2.ex, ro.up e2 x1, x2, q3, fun v F9 H9 k9 r9 => hQ v F9 H9 ((e1.trans e2).trans k9.fz) (k2.call0 k9) r9⟩
theorem em_gm2 {g : ω → α1 → α2 → Option ρ} (ho : ObjM C m ro) (h : EM ro te σ F cs m0) (h1 : EM r1 t1 σ F cs m1) (h2 : EM r2 t2 σ F cs m2) : EM rr (tMeth C m (Psp3 ro r1 r2 rr g) [] E te (tCons t1 (tCons t2 tNil))) σ F cs (o3 g m0 m1 m2) := fun d q c F0 H0 e0 k0 Q hQ => by
  obtain ⟨a, b, z, q1, q2, q3, q4⟩ := o3_some q
  refine h a q1 c F0 H0 e0 k0 _ fun v F1 H1 e1 k1 x1 => ?_
  obtain ⟨p, dx, fs, rfl, g1, g2⟩ := ho _ _ _ x1
  refine ⟨p, dx, fs, rfl, k1.ex _ _ g1, g2, ?_⟩
  refine h1 b q2 c F1 H1 (e0.trans e1) k1 _ fun w F2 H2 e2 k2 x2 => h2 z q3 c F2 H2 ((e0.trans e1).trans e2) k2 _ fun u F3 H3 e3 k3 x3 => ?_
  exact ⟨F3, .ref p, w, u, a, b, z, d, rfl, k3.ex, ro.up (e2.trans e3) x1, r1.up e3 x2, x3, q4, fun v F9 H9 k9 r9 => hQ v F9 H9 (((e1.trans e2).trans e3).trans k9.fz) (k3.call0 k9) r9⟩
theorem em_gmN1 {g : ω → α1 → Option ρ} (ho : ObjM C m ro) (h : EM ro te σ F cs m0) (h1 : EM r1 t1 σ F cs m1) : EM rr (tMethN C m 1 (Psp2 ro r1 rr g) (fun vs zs => vs ++ zs) E te (tCons t1 tNil)) σ F cs (o2 g m0 m1) := fun d q c F0 H0 e0 k0 Q hQ => by
  obtain ⟨a, b, q1, q2, q3⟩ := o2_some q
  refine h a q1 c F0 H0 e0 k0 _ fun v F1 H1 e1 k1 x1 => ?_
  obtain ⟨p, dx, fs, rfl, g1, g2⟩ := ho _ _ _ x1
  refine ⟨p, dx, fs, rfl, k1.ex _ _ g1, g2, ?_⟩
  refine h1 b q2 c F1 H1 (e0.trans e1) k1 _ fun w F2 H2 e2 k2 x2 => ⟨rfl, ?_⟩
  exact ⟨F2, .ref p, w, a, b, d, rfl, k2.ex, ro.up e2 x1, x2, q3, fun v F9 H9 k9 r9 => hQ v F9 H9 ((e1.trans e2).trans k9.fz) (k2.call0 k9) r9⟩
theorem em_gmN2 {g : ω → α1 → α2 → Option ρ} (ho : ObjM C m ro) (h : EM ro te σ F cs m0) (h1 : EM r1 t1 σ F cs m1) (h2 : EM r2 t2 σ F cs m2) : EM rr (tMethN C m 2 (Psp3 ro r1 r2 rr g) (fun vs zs => vs ++ zs) E te (tCons t1 (tCons t2 tNil))) σ F cs (o3 g m0 m1 m2) := fun d q c F0 H0 e0 k0 Q hQ => by
  obtain ⟨a, b, z, q1, q2, q3, q4⟩ := o3_some q
  refine h a q1 c F0 H0 e0 k0 _ fun v F1 H1 e1 k1 x1 => ?_
  obtain ⟨p, dx, fs, rfl, g1, g2⟩ := ho _ _ _ x1
  refine ⟨p, dx, fs, rfl, k1.ex _ _ g1, g2, ?_⟩
  refine h1 b q2 c F1 H1 (e0.trans e1) k1 _ fun w F2 H2 e2 k2 x2 => h2 z q3 c F2 H2 ((e0.trans e1).trans e2) k2 _ fun u F3 H3 e3 k3 x3 => ⟨rfl, ?_⟩
  exact ⟨F3, .ref p, w, u, a, b, z, d, rfl, k3.ex, ro.up (e2.trans e3) x1, r1.up e3 x2, x3, q4, fun v F9 H9 k9 r9 => hQ v F9 H9 (((e1.trans e2).trans e3).trans k9.fz) (k3.call0 k9) r9⟩
theorem em_prop {g : ω → Option ρ} (ho : ObjP C ro) (h : EM ro te σ F cs m0) : EM rr (tProp C (Psp1 ro rr g) [] E te) σ F cs (o1 g m0) := fun d q c F0 H0 e0 k0 Q hQ => by
  obtain ⟨a, q1, q2⟩ := o1_some q
  refine h a q1 c F0 H0 e0 k0 _ fun v F1 H1 e1 k1 x1 => ?_
  obtain ⟨p, dx, fs, rfl, g1⟩ := ho _ _ _ x1
  refine ⟨p, dx, fs, rfl, k1.ex _ _ g1, ?_⟩
  exact ⟨F1, .ref p, a, d, rfl, k1.ex, x1, q2, fun v F9 H9 k9 r9 => hQ v F9 H9 (e1.trans k9.fz) (k1.call0 k9) r9⟩
theorem em_propF {g : ω → Option (List ρ)} (ho : ObjP C ro) (h : EM ro te σ F cs m0) : EF rr (tProp C (Fsp1 ro rr g) [] E te) σ F cs (o1 g m0) := fun d q c F0 H0 e0 k0 Q hQ => by
  obtain ⟨a, q1, q2⟩ := o1_some q
  refine h a q1 c F0 H0 e0 k0 _ fun v F1 H1 e1 k1 x1 => ?_
  obtain ⟨p, dx, fs, rfl, g1⟩ := ho _ _ _ x1
  refine ⟨p, dx, fs, rfl, k1.ex _ _ g1, ?_⟩
  exact ⟨F1, .ref p, a, d, rfl, k1.ex, x1, q2, fun p F9 H9 k9 => hQ p F9 H9 (e1.trans k9.fz) (k1.call0n k9) (k1.dom p (Or.resolve_left (k9.old_new (p, cLst rr d) List.mem_cons_self) List.not_mem_nil))⟩
theorem em_lenP2 {α β : Type} {ra : Rp α} {rb : Rp β} {ta : TE} {m : Option (α × β)} (ha : EM (rP2 K ra rb) ta σ F cs m) : EM rInt (tCB (fun xs H Q => ∃ p ys, xs = [.ref p] ∧ (SqL K H p ys ∨ SqT K H p ys) ∧ Q (.int ys.length) H) (tCons ta tNil)) σ F cs (m.map fun _ => 2) := fun d q c F1 H e k Q hQ => by
  cases m with
  | none => cases q
  | some a =>
    cases q
    refine ha a rfl c F1 H e k _ fun x F2 H2 e2 k2 r2 => ?_
    obtain ⟨p, v1, v2, rfl, h1, h2, h3⟩ := r2
    exact ⟨p, [v1, v2], rfl, .inr (ext_ k2.ex h1), hQ _ F2 H2 e2 k2 rfl⟩
end
theorem em_p2t {α : Type} {ra : Rp α} {te : TE} {σ : L2.St} {F : Hp} {cs : Cs} {K : PySem.W.Frag} {m : Option (α × α)} (h : EM (rP2 K ra ra) te σ F cs m) : EM (rTup K ra) te σ F cs (m.map fun z => [z.1, z.2]) := fun d q c F1 H e k Q hQ => by
  cases m with
  | none => cases q
  | some a =>
    cases q
    refine h a rfl c F1 H e k Q fun v F2 H2 e2 k2 r2 => hQ v F2 H2 e2 k2 ?_
    obtain ⟨p, v1, v2, rfl, h1, h2, h3⟩ := r2
    exact ⟨p, [v1, v2], rfl, h1, .cons h2 (.cons h3 .nil)⟩
theorem em_p3t {α : Type} {ra : Rp α} {te : TE} {σ : L2.St} {F : Hp} {cs : Cs} {K : PySem.W.Frag} {m : Option (α × α × α)} (h : EM (rP3 K ra ra ra) te σ F cs m) : EM (rTup K ra) te σ F cs (m.map fun z => [z.1, z.2.1, z.2.2]) := fun d q c F1 H e k Q hQ => by
  cases m with
  | none => cases q
  | some a =>
    cases q
    refine h a rfl c F1 H e k Q fun v F2 H2 e2 k2 r2 => hQ v F2 H2 e2 k2 ?_
    obtain ⟨p, v1, v2, v3, rfl, h1, h2, h3, h4⟩ := r2
    exact ⟨p, [v1, v2, v3], rfl, h1, .cons h2 (.cons h3 (.cons h4 .nil))⟩
section
variable {α β γ δ : Type} {ra : Rp α} {rb : Rp β} {rc : Rp γ} {σ : L2.St} {F H : Hp} {cs : Cs} {K : PySem.W.Frag} {te ta tb tc : TE}
theorem em_p3_0 {m : Option (α × β × γ)} (h : EM (rP3 K ra rb rc) ta σ F cs m) : EM ra (tOp (rIxT K) ta (tC (.int 0))) σ F cs (m.map fun z => z.1) := fun d q c F1 H e k Q hQ => by
  cases m with
  | none => cases q
  | some a =>
    cases q
    refine h a rfl c F1 H e k _ fun v F2 H2 e2 k2 r2 => ?_
    obtain ⟨p, v1, v2, v3, rfl, h1, h2, h3, h4⟩ := r2
    exact ⟨p, [v1, v2, v3], 0, v1, rfl, rfl, ext_ k2.ex h1, rfl, hQ _ F2 H2 e2 k2 h2⟩
theorem em_p3_1 {m : Option (α × β × γ)} (h : EM (rP3 K ra rb rc) ta σ F cs m) : EM rb (tOp (rIxT K) ta (tC (.int 1))) σ F cs (m.map fun z => z.2.1) := fun d q c F1 H e k Q hQ => by
  cases m with
  | none => cases q
  | some a =>
    cases q
    refine h a rfl c F1 H e k _ fun v F2 H2 e2 k2 r2 => ?_
    obtain ⟨p, v1, v2, v3, rfl, h1, h2, h3, h4⟩ := r2
    exact ⟨p, [v1, v2, v3], 1, v2, rfl, rfl, ext_ k2.ex h1, rfl, hQ _ F2 H2 e2 k2 h3⟩
theorem em_p3_2 {m : Option (α × β × γ)} (h : EM (rP3 K ra rb rc) ta σ F cs m) : EM rc (tOp (rIxT K) ta (tC (.int 2))) σ F cs (m.map fun z => z.2.2) := fun d q c F1 H e k Q hQ => by
  cases m with
  | none => cases q
  | some a =>
    cases q
    refine h a rfl c F1 H e k _ fun v F2 H2 e2 k2 r2 => ?_
    obtain ⟨p, v1, v2, v3, rfl, h1, h2, h3, h4⟩ := r2
    exact ⟨p, [v1, v2, v3], 2, v3, rfl, rfl, ext_ k2.ex h1, rfl, hQ _ F2 H2 e2 k2 h4⟩
theorem vo_catT : VO (rCatA K) (rTup K ra) (rTup K ra) (rTup K ra) catG := fun c F cs H v w a b d k r2 r3 q3 Q hQ => by
  obtain ⟨rfl, hz⟩ := catG_some q3
  obtain ⟨p, vs, rfl, h3, h4⟩ := r2
  obtain ⟨p', ws, rfl, h5, h6⟩ := r3
  have l1 := h4.length
  have l2 := h6.length
  refine ⟨p, p', vs, ws, rfl, rfl, ext_ k.ex h3, ext_ k.ex h5, ?_, fun ev => ?_, fun _ ew => ?_, fun _ _ l hl => ?_⟩
  · rw [l1, l2]; exact sz_ok hz
  · have ea : a = [] := List.length_eq_zero_iff.mp (by rw [← l1, ev] <;> rfl)
    subst ea
    exact hQ _ F H (Evl.Ex.refl _) k ⟨p', ws, rfl, h5, h6⟩
  · have eb : b = [] := List.length_eq_zero_iff.mp (by rw [← l2, ew] <;> rfl)
    subst eb
    exact hQ _ F H (Evl.Ex.refl _) k ⟨p, vs, rfl, h3, by rw [List.append_nil]; exact h4⟩
  · exact hQ (.ref l) _ _ (Ex.new (k.fnone hl)) (k.lay hl) ⟨l, _, rfl, upd_same, Rs.up (Ex.new (k.fnone hl)) (h4.append h6)⟩
theorem sm_tup3 {cs : δ → Cs} {s : δ} {m1 : Option (α × δ)} {m2 : δ → Option (β × δ)} {m3 : δ → Option (γ × δ)} (h1 : SM ra ta σ F (cs s) m1 cs) (h2 : ∀ s, SM rb tb σ F (cs s) (m2 s) cs) (h3 : ∀ s, SM rc tc σ F (cs s) (m3 s) cs) : SM (rP3 K ra rb rc) (tTup (tCons ta (tCons tb (tCons tc tNil)))) σ F (cs s) (s3 (fun a b z s => some ((a, b, z), s)) m1 m2 m3) cs := fun d g q c F1 H e k Q hQ => by
  unfold s3 at q
  obtain ⟨a, g1, q1, q⟩ := sC_some q
  obtain ⟨b, g2, q2, q⟩ := sC_some q
  obtain ⟨z, g3, q3, q⟩ := sC_some q
  cases q
  refine h1 a g1 q1 c F1 H e k _ fun v F2 H2 e2 k2 r2 => h2 g1 b _ q2 c F2 H2 (e.trans e2) k2 _ fun w F3 H3 e3 k3 r3 => h3 g2 z _ q3 c F3 H3 ((e.trans e2).trans e3) k3 _ fun u F4 H4 e4 k4 r4 => ⟨by show 3 ≤ sizeLine; decide, fun p hp => ?_⟩
  have fp := k4.fnone hp
  exact hQ (.ref p) _ _ (((e2.trans e3).trans e4).trans (Ex.new fp)) (k4.lay hp) ⟨p, v, w, u, rfl, upd_same, ra.up ((e3.trans e4).trans (Ex.new fp)) r2, rb.up (e4.trans (Ex.new fp)) r3, rc.up (Ex.new fp) r4⟩
/-! enumerate -/
def enumL (l : List α) : List (Int × α) := ((List.range l.length).map fun (i : Nat) => (i : Int)).zip l
def enumG (l : List α) : Option (List (Int × α)) := some (enumL l)
theorem enum_get {l : List α} {i : Nat} {d : Int × α} (h : (enumL l)[i]? = some d) : d.1 = (i : Int) ∧ l[i]? = some d.2 := by
  obtain ⟨h1, h2⟩ := zip_get h
  rw [List.getElem?_map] at h1
  obtain ⟨j, h3, h4⟩ := Option.map_eq_some_iff.mp h1
  have := (List.getElem?_range (by
    have := (List.getElem?_eq_some_iff.mp h3).1
    simpa using this)).symm.trans h3
  cases this
  exact ⟨h4.symm, h2⟩
theorem goes_enum {a : Addr} {vs : List V} {l : List α} (h1 : SqL K F a vs) (r1 : Rs ra F vs l) : Goes (Ite K a) F (rP2 K rInt ra) (enumL l) where
  go := fun i d hd c F' cs H e k => by
    obtain ⟨d1, d2⟩ := enum_get hd
    obtain ⟨v, g1, g2⟩ := rs_get r1 d2
    refine ⟨⟨vs, v, Evl.ex_l (e.trans k.ex) h1, g1⟩, fun x H' y => ?_⟩
    obtain ⟨T, x', rfl, hT, rfl, y3⟩ := y
    have z1 := y3 vs (Evl.ex_l (e.trans k.ex) h1)
    rw [g1] at z1
    cases z1
    have fp := k.fnone hT
    exact ⟨_, Ex.new fp, fun c2 cs2 k2 => k2.lay hT, ⟨T, _, v, rfl, upd_same, by rw [d1]; rfl, ra.up (e.trans (Ex.new fp)) g2⟩⟩
  stop := fun c F' cs H e k => ⟨vs, Evl.ex_l (e.trans k.ex) h1, by
    rw [r1.length]
    unfold enumL
    simp⟩
theorem ei_enum {m : Option (List α)} (h : EM (rLst ra) te σ F cs m) : EI (rP2 K rInt ra) (iEnum K (tCons te tNil)) σ F cs (o1 enumG m) := fun ds q c F1 H e k R hR => by
  obtain ⟨a, q1, q2⟩ := o1_some q
  cases q2
  refine h a q1 c F1 H e k _ fun v F2 H2 e2 k2 r2 => ?_
  obtain ⟨p, vs, rfl, h3, h4⟩ := r2
  exact ⟨p, vs, rfl, SqL.of (k2.ex _ _ h3), hR _ F2 H2 e2 k2 (goes_enum (SqL.of h3) h4)⟩
theorem pi_enumK {X : Cx} (K : PySem.W.Frag) (h : X.K = K) {e : Expr} {ta : TA} {p pos tpos : Pos} {elts : List Expr} {kk : Nat} (hg : Gl X "enumerate") (hm : X.mg "enumerate" = none) (ha : PA X [e] ta) (hs : starEach [e] X.env = [(false, eval e X.env)] := by rfl) :
    PI X (.Tuple elts kk tpos) (.Call (.Name "enumerate" p) [e] [] pos) (iEnum K ta) := h ▸ pi_enum hg hm ha hs
end
section
variable {α : Type} {ra : Rp α} {σ : L2.St} {F H : Hp} {cs : Cs} {K : PySem.W.Frag} {c : Act} {D : Ends} {tz : TS}
/-- xs.clear() -/
theorem a_clear {i j : Nat} {p : Addr} {ds : List α} (hx : σ[i]? = some (some (.ref p))) (hj : cs[j]? = some (p, cLst ra ds)) (k : Cov c F cs H)
    (n : ∀ F2 H2, Ex F F2 → Cov c F2 (cs.set j (p, cLst ra [])) H2 → D.nx σ H2) : tDrop (tBM0 K "list" rClear (tVar i)) D σ H := by
  refine ⟨_, hx, ?_, ?_⟩
  · obtain ⟨_, _, o, h3, vs, rfl, h4⟩ := k.at_ j hj
    exact .inl ⟨rfl, _, SqL.of h3⟩
  · obtain ⟨_, _, o, h3, vs, rfl, h4⟩ := k.at_ j hj
    exact ⟨p, vs, rfl, rfl, h3, n F _ (Evl.Ex.refl _) (k.set j hj ⟨_, rfl, .nil⟩)⟩
theorem q_clear {i j : Nat} {p : Addr} {ds : List α} (hx : σ[i]? = some (some (.ref p))) (hj : cs[j]? = some (p, cLst ra ds)) (k : Cov c F cs H)
    (n : ∀ F2 H2, Ex F F2 → Cov c F2 (cs.set j (p, cLst ra [])) H2 → tz D σ H2) : tSeq (tDrop (tBM0 K "list" rClear (tVar i))) tz D σ H := a_clear (D := { D with nx := tz D }) hx hj k n
end
/-- behind a call that was lent cells (its result does not stand on the heap) -/
theorem Cov.lent {c : Act} {F F' F9 H H9 : Hp} {cs : Cs} (k : Cov c F cs H) (e : Ex F F') (k9 : Cov ⟨H, F', []⟩ F9 [] H9) : Cov c F cs H9 :=
  ⟨fun a o h => k9.ex _ _ (k9.fz _ _ (e _ _ h)), k.fz, fun y hy => by
    obtain ⟨h1, h2, o, h3, h4⟩ := k.cell y hy
    exact ⟨h1, h2, o, k9.keep _ _ List.not_mem_nil h3, h4⟩, k.nd, fun b o hb h => k9.keep _ _ List.not_mem_nil (k.keep b o hb h), k.nw, fun b h => k.dom b (k9.dom b h), fun b hb => by
    obtain ⟨o, h1, h2⟩ := k.pt b hb
    exact ⟨o, k9.keep _ _ List.not_mem_nil h1, h2⟩⟩
/-- a cell, lent: frozen for a while -/
theorem Cov.lend {α : Type} {c : Act} {F H : Hp} {cs : Cs} {ra : Rp α} {ds : List α} {j : Nat} {p : Addr} (k : Cov c F cs H) {G : Hp} (e : Ex F G) (eh : Ex G H) (hj : cs[j]? = some (p, cLst ra ds)) : ∃ G', Ex G G' ∧ Ex G' H ∧ (rLst ra).r G' (.ref p) ds := by
  obtain ⟨f1, _, o, f3, vs, rfl, f4⟩ := k.at_ j hj
  cases q : G p with
  | none =>
    refine ⟨upd G p (.lst vs), Ex.new q, fun a u h => ?_, p, vs, rfl, upd_same, Rs.up (e.trans (Ex.new q)) f4⟩
    by_cases z : a = p
    · subst z; rw [upd_same] at h; cases h; exact f3
    · rw [upd_ne z] at h; exact eh _ _ h
  | some u =>
    have := eh _ _ q
    rw [f3] at this
    cases this
    exact ⟨G, Evl.Ex.refl G, eh, p, vs, rfl, q, Rs.up e f4⟩
structure CalP (P : Program) (w : World) (K : PySem.W.Frag) (mg : Str → Option Value) (base : Heap) (k : Nat) (C : Addr) (m : Str) (ps : List Str) (sp : Sp) (X : FuncData → Prop) : Prop where
  ex : ∃ f fd p, FnOk P w K mg base CX0 k f fd ps sp ∧ PropOf K C m p f ∧ Binds K fd ps [] ∧ X fd
end Mw
/-! ### the head's facts, by a hook of my own -/
namespace Hm
open PySem PySem.Spec PyProof.Rows L2 He
abbrev Fc : Type := PySem.W.Frag → Bool
abbrev fa (f : Fa) : Fc := fun K => f.ok K
/-- the getter of a property -/
def pg (K : PySem.W.Frag) (C : Addr) (f : Str) : Addr := match PySem.W.recIn K (ma K C f) "property" with
  | some (.ref g :: _) => g
  | _ => 0
def propB (x f : Str) : Fc := fun K => eqO (PySem.W.findIn K (.ref (ga K x)) f) (some (some (.ref (ma K (ga K x) f)))) && (eqO (PySem.W.specialIn K (.ref (ma K (ga K x) f)) "__get__") (some (some (.builtin "property.__get__"))) &&
  (decide (PySem.W.takesIn K (.ref (ma K (ga K x) f)) = some true) && (match PySem.W.recIn K (ma K (ga K x) f) "property" with
    | some (.ref _ :: _) => true
    | _ => false)))
theorem prop_ok {K : PySem.W.Frag} {x f : Str} (c : propB x f K = true) : PropOf K (ga K x) f (ma K (ga K x) f) (pg K (ga K x) f) := by
  obtain ⟨c1, c⟩ := ba c
  obtain ⟨c2, c⟩ := ba c
  obtain ⟨c3, c4⟩ := ba c
  refine ⟨eqO_ok c1, eqO_ok c2, of_decide_eq_true c3, ?_⟩
  unfold pg
  revert c4
  split
  · rename_i g rest e
    intro _
    exact ⟨rest, by rw [e]⟩
  · intro c4
    cases c4
/-- one def: where it stands, its name, qualified name, parameters, body, scope -/
structure DefM where
  at_ : PySem.W.Frag → Addr
  name : Str
  qual : Str
  params : Arguments
  body : List Stmt
  scope : Scope
def fnM (K : PySem.W.Frag) (a : Addr) : FnW := match K.lookup a with
  | some ⟨_, _, .func fd, _⟩ => some (fd.name, fd.qualname, fd.params, fd.body, fd.scope, fd.globals, fd.closure, fd.builtins)
  | _ => none
def DefM.val (d : DefM) : FnW := some (d.name, d.qual, d.params, .stmts d.body, d.scope, mainGlobals, [], builtinsNs)
def DefM.ok (K : PySem.W.Frag) (d : DefM) : Bool := PySem.W.keepIn K (.ref (d.at_ K)) && (match K.lookup (d.at_ K) with
  | some ⟨_, _, .func fd, _⟩ => PySem.W.codeIn K fd.code d.qual && (dflB K fd.defaults [] && kwdB K fd.kwdefaults [])
  | _ => false)
theorem DefM.funD {K : PySem.W.Frag} {d : DefM} (e : fnM K (d.at_ K) = d.val) (c : d.ok K = true) : ∃ fd, FunD K d.name d.qual d.params d.body d.scope [] [] (d.at_ K) fd := by
  obtain ⟨kp, c2⟩ := ba c
  unfold fnM at e
  cases q : K.lookup (d.at_ K) with
  | none =>
    rw [q] at c2
    cases c2
  | some o =>
    obtain ⟨oc, od, dt, osl⟩ := o
    rw [q] at c2 e
    cases dt with
    | func fd =>
      obtain ⟨n1, n2, n3, n4, n5, n6, n7, n8, n9, n10, n11, n12, n13, n14, n15⟩ := fd
      have e2 : (some (n1, n2, n3, n4, n5, n6, n7, n15) : FnW) = some (d.name, d.qual, d.params, .stmts d.body, d.scope, mainGlobals, [], builtinsNs) := e
      simp only [Option.some.injEq, Prod.mk.injEq] at e2
      obtain ⟨h1, h2, h3, h4, h5, h6, h7, h8⟩ := e2
      subst h1 h2 h3 h4 h5 h6 h7 h8
      have c3 : (PySem.W.codeIn K n13 d.qual && (dflB K n8 [] && kwdB K n9 [])) = true := c2
      obtain ⟨k1, k2⟩ := ba c3
      obtain ⟨k3, k4⟩ := ba k2
      exact ⟨_, ⟨oc, od, n8, n9, n10, n11, n12, n13, n14, osl, rfl, q, k1, dflB_ok k3, kwdB_ok k4⟩, kp⟩
    | _ => cases c2
def obsM (fa : List Fc) (fn : List DefM) (K : PySem.W.Frag) : AlD := ((fa.all fun f => f K) && fn.all fun d => d.ok K, fn.map fun d => fnM K (d.at_ K))
def valM (fn : List DefM) : AlD := (true, fn.map DefM.val)
def SaysM (fa : List Fc) (fn : List DefM) (K : PySem.W.Frag) : Prop := obsM fa fn K = valM fn
def obsMG (n : Nat) (fa : List Fc) (fn : List DefM) (g : Addr → Option Obj) : AlD := obsM fa fn (frG g (asD g n))
def hookM (n : Nat) (fa : List Fc) (fn : List DefM) : PySem.W.Hook where
  α := AlD
  obs := fun s => obsMG n fa fn s.heap.get?
  val := fun _ => valM fn
  says := fun _ h => ∃ K : PySem.W.Frag, K.In h ∧ SaysM fa fn K
  of := fun _ _ e => ⟨_, frG_in, e⟩
  keeps := fun _ _ _ ⟨K, hK, c⟩ k => ⟨K, PySem.W.Frag.In.keeps hK k, c⟩
theorem obsMG_eq {n : Nat} {fa : List Fc} {fn : List DefM} {g : Addr → Option Obj} {s : Shared} (h : ∀ a, g a = s.heap.get? a) : obsMG n fa fn g = (hookM n fa fn).obs s := by
  have e : g = s.heap.get? := funext h
  rw [e] <;> rfl
section
variable {fa : List Fc} {fn : List DefM} {K : PySem.W.Frag}
theorem SaysM.fact (c : SaysM fa fn K) (i : Nat) {f : Fc} (h : fa[i]? = some f := by rfl) : f K = true := by
  have c1 := (ba (show ((fa.all fun f => f K) && fn.all fun d => d.ok K) = true from congrArg (fun z : AlD => z.1) c)).1
  exact List.all_eq_true.mp c1 f (List.mem_of_getElem? h)
theorem SaysM.def_ (c : SaysM fa fn K) (i : Nat) {d : DefM} (h : fn[i]? = some d := by rfl) : ∃ fd, FunD K d.name d.qual d.params d.body d.scope [] [] (d.at_ K) fd := by
  have c2 := (ba (show ((fa.all fun f => f K) && fn.all fun d => d.ok K) = true from congrArg (fun z : AlD => z.1) c)).2
  have e : fn.map (fun d => fnM K (d.at_ K)) = fn.map DefM.val := congrArg (fun z : AlD => z.2) c
  have e2 : (fn.map fun d => fnM K (d.at_ K))[i]? = (fn.map DefM.val)[i]? := by rw [e]
  rw [List.getElem?_map, List.getElem?_map, h] at e2
  exact DefM.funD (Option.some.inj e2) (List.all_eq_true.mp c2 d (List.mem_of_getElem? h))
end
end Hm

set_option maxHeartbeats 2000000
/-! sorted(xs), xs a list of tuples of ints (none of them empty) of any number; sorted of ints -/
namespace Mw
open PySem PySem.Spec PyProof.Rows L2
open Evl (Ex)
/-- the order of tuples of ints -/
def lexL : List Int → List Int → Bool
  | [], [] => false
  | [], _ :: _ => true
  | _ :: _, [] => false
  | x :: a, y :: b => if x = y then lexL a b else decide (x < y)
theorem lexL_asym : ∀ {a b : List Int}, lexL a b = true → lexL b a = false
  | [], [], h => by cases h
  | [], _ :: _, _ => rfl
  | _ :: _, [], h => by cases h
  | x :: a, y :: b, h => by
    unfold lexL at h ⊢
    by_cases e : x = y
    · rw [if_pos e] at h
      rw [if_pos e.symm]
      exact lexL_asym h
    · rw [if_neg e] at h
      rw [if_neg (fun z => e z.symm)]
      have := of_decide_eq_true h
      exact decide_eq_false (by omega)
theorem lexL_tr : ∀ {x y z : List Int}, lexL y x = false → lexL z y = false → lexL z x = false
  | [], y, z, h1, h2 => by
    cases z with
    | nil => rfl
    | cons c z => rfl
  | a :: x, [], z, h1, h2 => by cases h1
  | a :: x, b :: y, [], h1, h2 => by cases h2
  | a :: x, b :: y, c :: z, h1, h2 => by
    unfold lexL at h1 h2 ⊢
    by_cases e1 : b = a
    · rw [if_pos e1] at h1
      by_cases e2 : c = b
      · rw [if_pos e2] at h2
        rw [if_pos (e2.trans e1)]
        exact lexL_tr h1 h2
      · rw [if_neg e2] at h2
        rw [if_neg (fun q => e2 (q.trans e1.symm))]
        have := of_decide_eq_false h2
        exact decide_eq_false (by omega)
    · rw [if_neg e1] at h1
      have q1 := of_decide_eq_false h1
      by_cases e2 : c = b
      · rw [if_pos e2] at h2
        rw [if_neg (fun q => e1 (e2.symm.trans q))]
        exact decide_eq_false (by omega)
      · rw [if_neg e2] at h2
        have q2 := of_decide_eq_false h2
        rw [if_neg (by omega)]
        exact decide_eq_false (by omega)
theorem lexL_swo : SrtO.Swo lexL := ⟨fun _ _ => lexL_asym, fun _ _ _ => lexL_tr⟩
theorem lexL_eq : ∀ {a b : List Int}, lexL a b = false → lexL b a = false → a = b
  | [], [], _, _ => rfl
  | [], _ :: _, h, _ => by cases h
  | _ :: _, [], _, h => by cases h
  | x :: a, y :: b, h1, h2 => by
    unfold lexL at h1 h2
    by_cases e : x = y
    · rw [if_pos e] at h1
      rw [if_pos e.symm] at h2
      rw [e, lexL_eq h1 h2]
    · rw [if_neg e] at h1
      rw [if_neg (fun z => e z.symm)] at h2
      have q1 := of_decide_eq_false h1
      have q2 := of_decide_eq_false h2
      omega
/-- ascending -/
def srtT (l : List (List Int)) : List (List Int) := l.mergeSort fun a b => !lexL b a
theorem srtT_perm (l : List (List Int)) : (srtT l).Perm l := List.mergeSort_perm l _
theorem srtT_srtd (l : List (List Int)) : SrtO.Srtd lexL (srtT l) := by
  have h := List.pairwise_mergeSort (le := fun a b => !lexL b a) (fun a b c h1 h2 => by
    have h1 : lexL b a = false := by simpa using h1
    have h2 : lexL c b = false := by simpa using h2
    show (!lexL c a) = true
    rw [lexL_tr h1 h2]
    rfl) (fun a b => by
    cases h : lexL b a with
    | false => rfl
    | true => rw [lexL_asym h]; rfl) l
  exact h.imp fun {a b} h => by simpa using h
theorem srtd_uniq : ∀ {l m : List (List Int)}, SrtO.Srtd lexL l → SrtO.Srtd lexL m → l.Perm m → l = m
  | [], m, _, _, p => (List.Perm.eq_nil p.symm).symm
  | a :: l, [], _, _, p => absurd p.length_eq (by simp)
  | a :: l, b :: m, hl, hm, p => by
    have h1 : lexL a b = false := by
      rcases List.mem_cons.mp (p.mem_iff.mp (List.mem_cons_self (a := a) (l := l))) with e | ha
      · rw [e]; exact lexL_swo.refl b
      · exact SrtO.srtd_head hm a ha
    have h2 : lexL b a = false := by
      rcases List.mem_cons.mp (p.mem_iff.mpr (List.mem_cons_self (a := b) (l := m))) with e | hb
      · rw [e]; exact lexL_swo.refl a
      · exact SrtO.srtd_head hl b hb
    have e := lexL_eq h1 h2
    subst e
    rw [srtd_uniq (List.pairwise_cons.mp hl).2 (List.pairwise_cons.mp hm).2 p.cons_inv]
/-! at the machine -/
def IsTupI (h : Heap) (v : Value) (ns : List Int) : Prop := ∃ (a : Addr) (o : Obj) (us : Array Value) (n : Nat), v = .ref a ∧ h.get? a = some o ∧ o.cls = .type "tuple" ∧ o.data = .seq us n ∧ Vals (ns.map V.int) us.toList ∧ ns ≠ []
theorem IsTupI.keeps {h h' : Heap} {v : Value} {ns : List Int} (p : IsTupI h v ns) (k : ∀ b o, h.get? b = some o → o.cls = .type "tuple" → h'.get? b = some o) : IsTupI h' v ns := by
  obtain ⟨a, o, us, n, e, ho, hc, hd, r, z⟩ := p
  exact ⟨a, o, us, n, e, k _ _ ho hc, hc, hd, r, z⟩
section
variable {prog : Program} {w : World} {A : Around} {E : Value → Shared → Prop} {s : Shared}
theorem lex_tup {Q : Bool → Shared → Prop} {fin : Bool} : ∀ {ns ms : List Int} {us vs : List Value} (i : Nat), Vals (ns.map V.int) us → Vals (ms.map V.int) vs → fin = decide (ns.length < ms.length) → Q (lexL ns ms) s → PySem.W.KatLex prog w A true fin Q (us.zip vs) i s
  | [], [], us, vs, i, hu, hv, hf, h => by
    cases hu
    rw [List.zip_nil_left]
    subst hf
    exact PySem.W.kat_nil h
  | [], m :: ms, us, vs, i, hu, hv, hf, h => by
    cases hu
    rw [List.zip_nil_left]
    subst hf
    exact PySem.W.kat_nil (by
      have : decide (([] : List Int).length < (m :: ms).length) = true := decide_eq_true (by simp)
      rw [this]
      exact h)
  | n :: ns, [], us, vs, i, hu, hv, hf, h => by
    cases hv
    rw [List.zip_nil_right]
    subst hf
    exact PySem.W.kat_nil (by
      have : decide ((n :: ns).length < ([] : List Int).length) = false := decide_eq_false (by simp)
      rw [this]
      exact h)
  | n :: ns, m :: ms, us, vs, i, hu, hv, hf, h => by
    cases hu with
    | @cons _ u _ ur r1 hu =>
      cases hv with
      | @cons _ v _ vr r2 hv =>
        obtain ⟨t, rfl⟩ := r1
        obtain ⟨t', rfl⟩ := r2
        rw [List.zip_cons_cons]
        refine PySem.W.kat_cons (SeqAt.EqAt.int_int n t m t' prog w _ _ ?_)
        refine PySem.W.kat_go (fun e1 => ?_) (fun e1 => ?_)
        · have ex : n = m := by simpa using e1
          refine PySem.W.kat_yes (lex_tup (i + 1) hu hv ?_ ?_)
          · rw [hf]
            exact decide_eq_decide.mpr (by simp)
          · have h2 := h
            unfold lexL at h2
            rw [if_pos ex] at h2
            exact h2
        · have ex : ¬ n = m := by simpa using e1
          refine PySem.W.kat_no (TS.oneLt_ints _ ?_)
          have h2 := h
          unfold lexL at h2
          rw [if_neg ex] at h2
          exact h2
theorem tup_cmp {vs : List Value} {k : Value → List Int} (hp : ∀ v ∈ vs, IsTupI s.heap v (k v)) : SrtO.Cmp prog w A s (tuples' true) (fun p => p.1 ∈ vs) (SrtO.lt2 fun v u => lexL (k v) (k u)) := by
  intro p q hm hm'
  have h1 := hp _ hm
  have h2 := hp _ hm'
  show wpAny (model prog w) A (keyLt' (tuples' true) p.1 q.1) (fun r s' => s' = s ∧ r = lexL (k p.1) (k q.1)) (fun _ _ => False) s
  generalize k p.1 = ns at h1 ⊢
  generalize k q.1 = ms at h2 ⊢
  obtain ⟨a, o, us, n, e, ho, hc, hd, r, z⟩ := h1
  obtain ⟨a', o', us', n', e', ho', hc', hd', r', z'⟩ := h2
  rw [e, e']
  refine PySem.W.kat_lt ho hd ho' hd' (lex_tup 0 r r' ?_ ⟨rfl, rfl⟩)
  have l1 := r.length
  have l2 := r'.length
  simp only [List.length_map, Array.length_toList] at l1 l2
  rw [l1, l2]
theorem tups_first {h : Heap} {k : Value → List Int} : ∀ {vs : List Value}, (∀ v ∈ vs, IsTupI h v (k v)) → ∃ fs : List Value, PySem.W.KatTups h vs fs ∧ fs.length = vs.length ∧ ∀ f ∈ fs, ∃ x t, f = Value.int x t
  | [], _ => ⟨[], PySem.W.KatTups.nil, rfl, fun _ hm => by simp at hm⟩
  | v :: vs, hp => by
    obtain ⟨fs, h1, h2, h3⟩ := tups_first (vs := vs) fun v' hm => hp v' (List.mem_cons_of_mem _ hm)
    obtain ⟨a, o, us, n, e, ho, hc, hd, r, z⟩ := hp v (List.mem_cons_self ..)
    generalize k v = ns at r z
    subst e
    cases ns with
    | nil => exact absurd rfl z
    | cons x ns =>
      obtain ⟨us⟩ := us
      cases r with
      | @cons _ u _ ur r1 _ =>
        obtain ⟨t, rfl⟩ := r1
        refine ⟨.int x t :: fs, PySem.W.KatTups.cons ho hc hd rfl h1, by rw [List.length_cons, List.length_cons, h2], fun f hm => ?_⟩
        rcases List.mem_cons.mp hm with rfl | hm
        · exact ⟨x, t, rfl⟩
        · exact h3 f hm
theorem tups_sortableO {a : Addr} {vs : List Value} {k : Value → List Int} (h0 : 0 < vs.length) (hp : ∀ v ∈ vs, IsTupI s.heap v (k v)) (ha : ∀ o, s.heap.get? a = some o → o.cls ≠ .type "tuple") : SrtO.SortableO prog w A s a vs fun v u => lexL (k v) (k u) := by
  intro h' keep
  have hp' : ∀ v ∈ vs, IsTupI h' v (k v) := fun v hm => (hp v hm).keeps fun b o e c => keep b o (fun z => by subst z; exact ha o e c) e
  obtain ⟨fs, h1, h2, h3⟩ := tups_first hp'
  refine ⟨tuples' true, fun Q E hq => ?_, tup_cmp hp'⟩
  refine PySem.W.kat_kind (T := .type "int") h1 (by omega) (fun f hm => ?_) (by rfl) ?_
  · obtain ⟨x, t, rfl⟩ := h3 f hm
    exact PySem.W.Looks.now
  · have e : (Value.type "int" != Value.type "tuple") = true := by first | decide +kernel | rfl | decide
    rw [e]
    exact hq
theorem swo_key (k : Value → List Int) : SrtO.Swo fun v u => lexL (k v) (k u) := ⟨fun _ _ => lexL_asym, fun _ _ _ => lexL_tr⟩
theorem sorted_tupsO {l : Addr} {vs : List Value} {k : Value → List Int} {Q : Value → Shared → Prop} (hl : s.heap.IsList l vs.toArray) (hz : vs.length ≤ sizeLine) (hp : ∀ v ∈ vs, IsTupI s.heap v (k v))
    (h : ∀ (h' : Heap) (d : Addr) (out : List Value), SrtO.Srtd (fun v u => lexL (k v) (k u)) out → SrtO.Stb (fun v u => lexL (k v) (k u)) out vs → (∀ b o, s.heap.get? b = some o → h'.get? b = some o) → s.heap.objs.size ≤ d → (∃ n, h'.get? d = some (seqObj "list" out.toArray n)) → Q (.ref d) { s with heap := h' }) :
    wpAny (model prog w) A (call (.builtin "sorted") [.ref l]) Q E s := by
  refine SrtO.sorted_ord (swo_key k) hl hz (fun h2 h₁ a ha kk => ?_) fun out hs hb => ?_
  · refine tups_sortableO (s := { s with heap := h₁ }) (by omega) (fun v hm => (hp v hm).keeps fun b o e _ => (kk b o e).2) fun o e => ?_
    have e' : some o = some (seqObj "list" vs.toArray 0) := e.symm.trans ha
    cases e'
    intro c
    exact absurd (Value.type.inj c) (by decide)
  · exact h _ _ out hs hb (fun b o e => PyProof.Rows.sortedAll_old e) (Nat.le_succ _) (PyProof.Rows.sortedAll_at s.heap vs out.toArray)
end
abbrev ltV (k : V → List Int) (x y : V) : Bool := lexL (k x) (k y)
theorem ltV_swo (k : V → List Int) : SrtO.Swo (ltV k) := ⟨fun _ _ => lexL_asym, fun _ _ _ => lexL_tr⟩
def rSortedTI (K : PySem.W.Frag) : List V → Hp → VK → Prop := fun vs H Q => ∃ (a : Addr) (xs : List V) (k : V → List Int), vs = [V.ref a] ∧ SqL K H a xs ∧ (∀ x ∈ xs, k x ≠ [] ∧ ∃ t, x = V.ref t ∧ H t = some (.tup ((k x).map V.int))) ∧
  ∀ ys p, SrtO.Srtd (ltV k) ys → SrtO.Stb (ltV k) ys xs → H p = none → Q (.ref p) (upd H p (.lst ys))
theorem cr_sortedTI {X : Cx} : CallR X (.builtin "sorted") (rSortedTI X.K) := by
  intro pins s σ H vs us Q I r h
  obtain ⟨a, xs, k, rfl, hs, hx, q⟩ := h
  obtain ⟨its, rv, hl, hz⟩ := I.list hs
  obtain ⟨u, rfl, ru⟩ := vals1 r
  obtain rfl : u = Value.ref a := ru
  obtain ⟨e1, e2⟩ := refs_back rv fun x m => by
    obtain ⟨_, t, e, _⟩ := hx x m
    exact ⟨t, e⟩
  refine sorted_tupsO (k := fun u => k (backV u)) hl.isList (by rw [← rv.length]; exact hz) (fun v hv => ?_) fun h' d out h1 h2 kp hd hn => ?_
  · obtain ⟨t, rfl⟩ := e2 v hv
    have hm : V.ref t ∈ xs := by rw [e1]; exact List.mem_map.mpr ⟨_, hv, rfl⟩
    obtain ⟨ne, t', e, ht⟩ := hx _ hm
    cases e
    obtain ⟨_, its2, r2, o, ho, hc, n, hd⟩ := I.hok _ _ ht
    exact ⟨t, o, its2.toArray, n, rfl, ho, hc, hd, by simpa [backV] using r2, ne⟩
  · have h3 : ∀ u ∈ out, ∃ a, u = Value.ref a := fun u hu => e2 u (h2.perm.mem_iff.mp hu)
    obtain ⟨n, hn⟩ := hn
    have hb : SrtO.Stb (ltV k) (out.map backV) xs := by
      rw [e1]
      exact SrtO.Stb.map (ltV_swo k) backV h2
    refine ⟨.ref d, upd H d (.lst (out.map backV)), I.laid (t' := s.toks) kp hd ⟨?_, out, n, vals_back h3, hn⟩, rfl, q _ d (SrtO.srtd_map h1) hb (I.hok.fresh hd)⟩
    rw [hb.len]
    exact hz
theorem cr_sortedTIK {X : Cx} (K : PySem.W.Frag) (h : X.K = K) : CallR X (.builtin "sorted") (rSortedTI K) := h ▸ cr_sortedTI
end Mw

set_option maxHeartbeats 2000000
/-! objects of a class with one, three, four fields (printed by objs.py) -/
namespace Mw
open PySem L2
open Evl (Ex)
section
variable {α0 : Type}
def rO1 (C : Addr) (n0 : Str) (r0 : Rp α0) : Rp (α0) := ⟨fun H v d => ∃ a dx v0, v = .ref a ∧ H a = some (.ins C dx [(n0, v0)]) ∧ r0.r H v0 d,
  fun e ⟨a, dx, v0, h1, h2, h3⟩ => ⟨a, dx, v0, h1, e _ _ h2, r0.up e h3⟩⟩
/-- an object being made: the fields so far -/
def cO1P (n0 : Str) (r0 : Rp α0) (s : Option α0) (F : Hp) (vs : List (Str × V)) : Prop := match s with
  | none => vs = []
  | some a0 => ∃ v0, vs = [(n0, v0)] ∧ r0.r F v0 a0
theorem cO1P_up {n0 : Str} {r0 : Rp α0} {s : Option α0} {F F' : Hp} {vs : List (Str × V)} (e : Ex F F') (h : cO1P n0 r0 s F vs) : cO1P n0 r0 s F' vs := by
  unfold cO1P at h ⊢
  split at h
  · exact h
  · obtain ⟨v0, h, g0⟩ := h
    exact ⟨v0, h, r0.up e g0⟩
def cO1 (C : Addr) (n0 : Str) (r0 : Rp α0) (s : Option α0) : Cp := ⟨fun F o => ∃ dx vs, o = .ins C dx vs ∧ cO1P n0 r0 s F vs, fun e ⟨dx, vs, h1, h2⟩ => ⟨dx, vs, h1, cO1P_up e h2⟩, fun ⟨_, _, h, _⟩ => by subst h; trivial⟩
def finO1 (s : Option α0) : Option (α0) := match s with
  | some a0 => some a0
  | _ => none
def put1_0 (s : Option α0) (a : α0) : Option (Option α0) := match s with
  | none => some (some a)
  | _ => none
theorem finO1_some {s : Option α0} {d : α0} (h : finO1 s = some d) : s = some d := by
  rcases s with _ | _
  all_goals first
    | (cases h; rfl)
    | cases h
theorem put1_0_some {s s' : Option α0} {a : α0} (h : put1_0 s a = some s') : s = none ∧ s' = some a := by
  rcases s with _ | _
  all_goals first
    | (cases h; exact ⟨rfl, rfl⟩)
    | cases h
end
section
variable {α0 β1 β2 β3 ρ ω : Type} {r0 : Rp α0} {s1 : Rp β1} {s2 : Rp β2} {s3 : Rp β3} {rr : Rp ρ} {C : Addr} {n0 : Str} {σ : L2.St} {F H : Hp} {cs : Cs} {K : PySem.W.Frag} {te t1 t2 t3 : TE} {D : Ends} {c : Act} {tz : TS} {E : XK}
theorem em_fld1_0 {m : Option (α0)} (hC : Cls K C) (hn : NoAttr K C n0) (h : EM (rO1 C n0 r0) te σ F cs m) : EM r0 (tFld K te n0) σ F cs (m.map fun z => z) := fun d q c F1 H e k Q hQ => by
  cases m with
  | none => cases q
  | some a =>
    cases q
    refine h a rfl c F1 H e k _ fun v F2 H2 e2 k2 r2 => ?_
    obtain ⟨p, dx, v0, rfl, h1, g0⟩ := r2
    exact ⟨p, C, dx, _, v0, rfl, k2.ex _ _ h1, hC, hn, by simp [List.lookup], hQ v0 F2 H2 e2 k2 g0⟩
theorem objP_O1 : ObjP C (rO1 C n0 r0) := fun F v a ⟨p, dx, v0, e, g, _⟩ => ⟨p, dx, _, e, g⟩
theorem objM_O1 {m : Str} (h0 : (m == n0) = false) : ObjM C m (rO1 C n0 r0) := fun F v a ⟨p, dx, v0, e, g, _⟩ => ⟨p, dx, _, e, g, by simp [List.lookup, h0]⟩
theorem a_put1_0 {i j : Nat} {p : Addr} {a : α0} {s s' : Option α0} {m : Option α0} (hC : Cls K C) (hn : NoAttr K C n0) (hx : σ[i]? = some (some (.ref p))) (hj : cs[j]? = some (p, cO1 C n0 r0 s)) (h : EM r0 te σ F cs m) (hm : m = some a) (hs : put1_0 s a = some s') (k : Cov c F cs H) (n : ∀ F2 H2, Ex F F2 → Cov c F2 (cs.set j (p, cO1 C n0 r0 s')) H2 → D.nx σ H2) : sFld K (tVar i) te n0 D σ H := by
  refine h a hm c F H (Evl.Ex.refl _) k _ fun v F2 H2 e2 k2 r2 => ⟨_, hx, ?_⟩
  obtain ⟨_, _, o, g3, dx, vs, rfl, g4⟩ := k2.at_ j hj
  obtain ⟨rfl, rfl⟩ := put1_0_some hs
  have g4 : vs = [] := g4
  subst g4
  have e : putF n0 v [] = [(n0, v)] := by
    rfl
  refine ⟨p, C, dx, _, rfl, g3, hC, hn, (by show 0 < 1000; decide), ?_⟩
  rw [e]
  exact n F2 _ e2 (k2.set j hj ⟨dx, _, rfl, v, rfl, r2⟩)
theorem q_put1_0 {i j : Nat} {p : Addr} {a : α0} {s s' : Option α0} {m : Option α0} (hC : Cls K C) (hn : NoAttr K C n0) (hx : σ[i]? = some (some (.ref p))) (hj : cs[j]? = some (p, cO1 C n0 r0 s)) (h : EM r0 te σ F cs m) (hm : m = some a) (hs : put1_0 s a = some s') (k : Cov c F cs H) (n : ∀ F2 H2, Ex F F2 → Cov c F2 (cs.set j (p, cO1 C n0 r0 s')) H2 → tz D σ H2) : tSeq (sFld K (tVar i) te n0) tz D σ H := a_put1_0 (D := { D with nx := tz D }) hC hn hx hj h hm hs k n
theorem em_make1_1 {m : (Option α0) → β1 → Option (Unit × (Option α0))} {m1 : Option β1} (h1 : EM s1 t1 σ F cs m1) : EM (rO1 C n0 r0) (tMake C (MPsp1 (cO1 C n0 r0) s1 rNon m) [] E (tCons t1 tNil)) σ F cs (o1 (fun a1 => (m none a1).bind fun r => finO1 r.2) m1) := fun d q c F0 H0 e0 k0 Q hQ => by
  obtain ⟨b1, q1, q9⟩ := o1_some q
  obtain ⟨⟨⟨⟩, st⟩, q4, q5⟩ := bind_some q9
  refine h1 b1 q1 c F0 H0 e0 k0 _ fun v1 F1 H1 e1 k1 x1 => ?_
  intro x dx hx hdx hne
  have f9 := k1.fnone hdx
  have k8 := k1.lay (o := .own x) hdx
  have hx3 : upd H1 dx (.own x) x = none := by rw [upd_ne (fun z => hne z.symm)]; exact hx
  have k9 := k8.own0 (o := .ins C dx []) (x := cO1 C n0 r0 none) hx3 ⟨dx, [], rfl, rfl⟩
  have g3 := Ex.new (o := HO.own x) f9
  refine ⟨_, x, v1, none, b1, (), st, rfl, (k9.keepN 1).base, s1.up g3 x1, q4, fun v F9 H9 kx r9 => ⟨r9, ?_⟩⟩
  have k5 := k9.call1 kx
  obtain ⟨f1, _, o, g4, dy, vs, rfl, g5⟩ := k5.head
  have q5 := finO1_some q5
  subst q5
  obtain ⟨w0, hv, y0⟩ := g5
  subst hv
  have hn : c.H0 x = none := k1.dom x hx
  have k6 := k5.freeze g4 hn
  exact hQ (.ref x) _ H9 (((e1.trans g3).trans kx.fz).trans (Ex.new f1)) k6 ⟨x, dy, w0, rfl, upd_same, r0.up (Ex.new f1) y0⟩
theorem em_make1_2 {m : (Option α0) → β1 → β2 → Option (Unit × (Option α0))} {m1 : Option β1} {m2 : Option β2} (h1 : EM s1 t1 σ F cs m1) (h2 : EM s2 t2 σ F cs m2) : EM (rO1 C n0 r0) (tMake C (MPsp2 (cO1 C n0 r0) s1 s2 rNon m) [] E (tCons t1 (tCons t2 tNil))) σ F cs (o2 (fun a1 a2 => (m none a1 a2).bind fun r => finO1 r.2) m1 m2) := fun d q c F0 H0 e0 k0 Q hQ => by
  obtain ⟨b1, b2, q1, q2, q9⟩ := o2_some q
  obtain ⟨⟨⟨⟩, st⟩, q4, q5⟩ := bind_some q9
  refine h1 b1 q1 c F0 H0 e0 k0 _ fun v1 F1 H1 e1 k1 x1 => ?_
  have f1 := e0.trans e1
  refine h2 b2 q2 c F1 H1 f1 k1 _ fun v2 F2 H2 e2 k2 x2 => ?_
  intro x dx hx hdx hne
  have f9 := k2.fnone hdx
  have k8 := k2.lay (o := .own x) hdx
  have hx3 : upd H2 dx (.own x) x = none := by rw [upd_ne (fun z => hne z.symm)]; exact hx
  have k9 := k8.own0 (o := .ins C dx []) (x := cO1 C n0 r0 none) hx3 ⟨dx, [], rfl, rfl⟩
  have g3 := Ex.new (o := HO.own x) f9
  refine ⟨_, x, v1, v2, none, b1, b2, (), st, rfl, (k9.keepN 1).base, s1.up (e2.trans g3) x1, s2.up g3 x2, q4, fun v F9 H9 kx r9 => ⟨r9, ?_⟩⟩
  have k5 := k9.call1 kx
  obtain ⟨f1, _, o, g4, dy, vs, rfl, g5⟩ := k5.head
  have q5 := finO1_some q5
  subst q5
  obtain ⟨w0, hv, y0⟩ := g5
  subst hv
  have hn : c.H0 x = none := k2.dom x hx
  have k6 := k5.freeze g4 hn
  exact hQ (.ref x) _ H9 ((((e1.trans e2).trans g3).trans kx.fz).trans (Ex.new f1)) k6 ⟨x, dy, w0, rfl, upd_same, r0.up (Ex.new f1) y0⟩
theorem em_make1_3 {m : (Option α0) → β1 → β2 → β3 → Option (Unit × (Option α0))} {m1 : Option β1} {m2 : Option β2} {m3 : Option β3} (h1 : EM s1 t1 σ F cs m1) (h2 : EM s2 t2 σ F cs m2) (h3 : EM s3 t3 σ F cs m3) : EM (rO1 C n0 r0) (tMake C (MPsp3 (cO1 C n0 r0) s1 s2 s3 rNon m) [] E (tCons t1 (tCons t2 (tCons t3 tNil)))) σ F cs (o3 (fun a1 a2 a3 => (m none a1 a2 a3).bind fun r => finO1 r.2) m1 m2 m3) := fun d q c F0 H0 e0 k0 Q hQ => by
  obtain ⟨b1, b2, b3, q1, q2, q3, q9⟩ := o3_some q
  obtain ⟨⟨⟨⟩, st⟩, q4, q5⟩ := bind_some q9
  refine h1 b1 q1 c F0 H0 e0 k0 _ fun v1 F1 H1 e1 k1 x1 => ?_
  have f1 := e0.trans e1
  refine h2 b2 q2 c F1 H1 f1 k1 _ fun v2 F2 H2 e2 k2 x2 => ?_
  have f2 := f1.trans e2
  refine h3 b3 q3 c F2 H2 f2 k2 _ fun v3 F3 H3 e3 k3 x3 => ?_
  intro x dx hx hdx hne
  have f9 := k3.fnone hdx
  have k8 := k3.lay (o := .own x) hdx
  have hx3 : upd H3 dx (.own x) x = none := by rw [upd_ne (fun z => hne z.symm)]; exact hx
  have k9 := k8.own0 (o := .ins C dx []) (x := cO1 C n0 r0 none) hx3 ⟨dx, [], rfl, rfl⟩
  have g3 := Ex.new (o := HO.own x) f9
  refine ⟨_, x, v1, v2, v3, none, b1, b2, b3, (), st, rfl, (k9.keepN 1).base, s1.up ((e2.trans e3).trans g3) x1, s2.up (e3.trans g3) x2, s3.up g3 x3, q4, fun v F9 H9 kx r9 => ⟨r9, ?_⟩⟩
  have k5 := k9.call1 kx
  obtain ⟨f1, _, o, g4, dy, vs, rfl, g5⟩ := k5.head
  have q5 := finO1_some q5
  subst q5
  obtain ⟨w0, hv, y0⟩ := g5
  subst hv
  have hn : c.H0 x = none := k3.dom x hx
  have k6 := k5.freeze g4 hn
  exact hQ (.ref x) _ H9 (((((e1.trans e2).trans e3).trans g3).trans kx.fz).trans (Ex.new f1)) k6 ⟨x, dy, w0, rfl, upd_same, r0.up (Ex.new f1) y0⟩
end
section
variable {α0 α1 α2 : Type}
def rO3 (C : Addr) (n0 n1 n2 : Str) (r0 : Rp α0) (r1 : Rp α1) (r2 : Rp α2) : Rp (α0 × α1 × α2) := ⟨fun H v d => ∃ a dx v0 v1 v2, v = .ref a ∧ H a = some (.ins C dx [(n0, v0), (n1, v1), (n2, v2)]) ∧ r0.r H v0 d.1 ∧ r1.r H v1 d.2.1 ∧ r2.r H v2 d.2.2,
  fun e ⟨a, dx, v0, v1, v2, h1, h2, h3, h4, h5⟩ => ⟨a, dx, v0, v1, v2, h1, e _ _ h2, r0.up e h3, r1.up e h4, r2.up e h5⟩⟩
/-- an object being made: the fields so far -/
def cO3P (n0 n1 n2 : Str) (r0 : Rp α0) (r1 : Rp α1) (r2 : Rp α2) (s : Option α0 × Option α1 × Option α2) (F : Hp) (vs : List (Str × V)) : Prop := match s with
  | (none, none, none) => vs = []
  | (some a0, none, none) => ∃ v0, vs = [(n0, v0)] ∧ r0.r F v0 a0
  | (some a0, some a1, none) => ∃ v0 v1, vs = [(n0, v0), (n1, v1)] ∧ r0.r F v0 a0 ∧ r1.r F v1 a1
  | (some a0, some a1, some a2) => ∃ v0 v1 v2, vs = [(n0, v0), (n1, v1), (n2, v2)] ∧ r0.r F v0 a0 ∧ r1.r F v1 a1 ∧ r2.r F v2 a2
  | _ => False
theorem cO3P_up {n0 n1 n2 : Str} {r0 : Rp α0} {r1 : Rp α1} {r2 : Rp α2} {s : Option α0 × Option α1 × Option α2} {F F' : Hp} {vs : List (Str × V)} (e : Ex F F') (h : cO3P n0 n1 n2 r0 r1 r2 s F vs) : cO3P n0 n1 n2 r0 r1 r2 s F' vs := by
  unfold cO3P at h ⊢
  split at h
  · exact h
  · obtain ⟨v0, h, g0⟩ := h
    exact ⟨v0, h, r0.up e g0⟩
  · obtain ⟨v0, v1, h, g0, g1⟩ := h
    exact ⟨v0, v1, h, r0.up e g0, r1.up e g1⟩
  · obtain ⟨v0, v1, v2, h, g0, g1, g2⟩ := h
    exact ⟨v0, v1, v2, h, r0.up e g0, r1.up e g1, r2.up e g2⟩
  · exact h
def cO3 (C : Addr) (n0 n1 n2 : Str) (r0 : Rp α0) (r1 : Rp α1) (r2 : Rp α2) (s : Option α0 × Option α1 × Option α2) : Cp := ⟨fun F o => ∃ dx vs, o = .ins C dx vs ∧ cO3P n0 n1 n2 r0 r1 r2 s F vs, fun e ⟨dx, vs, h1, h2⟩ => ⟨dx, vs, h1, cO3P_up e h2⟩, fun ⟨_, _, h, _⟩ => by subst h; trivial⟩
def finO3 (s : Option α0 × Option α1 × Option α2) : Option (α0 × α1 × α2) := match s with
  | (some a0, some a1, some a2) => some (a0, a1, a2)
  | _ => none
def put3_0 (s : Option α0 × Option α1 × Option α2) (a : α0) : Option (Option α0 × Option α1 × Option α2) := match s with
  | (none, none, none) => some ((some a, none, none))
  | _ => none
def put3_1 (s : Option α0 × Option α1 × Option α2) (a : α1) : Option (Option α0 × Option α1 × Option α2) := match s with
  | (some a0, none, none) => some ((some a0, some a, none))
  | _ => none
def put3_2 (s : Option α0 × Option α1 × Option α2) (a : α2) : Option (Option α0 × Option α1 × Option α2) := match s with
  | (some a0, some a1, none) => some ((some a0, some a1, some a))
  | _ => none
theorem finO3_some {s : Option α0 × Option α1 × Option α2} {d : α0 × α1 × α2} (h : finO3 s = some d) : s = (some d.1, some d.2.1, some d.2.2) := by
  rcases s with ⟨_ | _, _ | _, _ | _⟩
  all_goals first
    | (cases h; rfl)
    | cases h
theorem put3_0_some {s s' : Option α0 × Option α1 × Option α2} {a : α0} (h : put3_0 s a = some s') : s = (none, none, none) ∧ s' = (some a, none, none) := by
  rcases s with ⟨_ | _, _ | _, _ | _⟩
  all_goals first
    | (cases h; exact ⟨rfl, rfl⟩)
    | cases h
theorem put3_1_some {s s' : Option α0 × Option α1 × Option α2} {a : α1} (h : put3_1 s a = some s') : ∃ a0, s = (some a0, none, none) ∧ s' = (some a0, some a, none) := by
  rcases s with ⟨_ | _, _ | _, _ | _⟩
  all_goals first
    | (cases h; exact ⟨_, rfl, rfl⟩)
    | cases h
theorem put3_2_some {s s' : Option α0 × Option α1 × Option α2} {a : α2} (h : put3_2 s a = some s') : ∃ a0, ∃ a1, s = (some a0, some a1, none) ∧ s' = (some a0, some a1, some a) := by
  rcases s with ⟨_ | _, _ | _, _ | _⟩
  all_goals first
    | (cases h; exact ⟨_, _, rfl, rfl⟩)
    | cases h
end
section
variable {α0 α1 α2 β1 β2 β3 ρ ω : Type} {r0 : Rp α0} {r1 : Rp α1} {r2 : Rp α2} {s1 : Rp β1} {s2 : Rp β2} {s3 : Rp β3} {rr : Rp ρ} {C : Addr} {n0 n1 n2 : Str} {σ : L2.St} {F H : Hp} {cs : Cs} {K : PySem.W.Frag} {te t1 t2 t3 : TE} {D : Ends} {c : Act} {tz : TS} {E : XK}
theorem em_fld3_0 {m : Option (α0 × α1 × α2)} (hC : Cls K C) (hn : NoAttr K C n0) (h : EM (rO3 C n0 n1 n2 r0 r1 r2) te σ F cs m) : EM r0 (tFld K te n0) σ F cs (m.map fun z => z.1) := fun d q c F1 H e k Q hQ => by
  cases m with
  | none => cases q
  | some a =>
    cases q
    refine h a rfl c F1 H e k _ fun v F2 H2 e2 k2 r2 => ?_
    obtain ⟨p, dx, v0, v1, v2, rfl, h1, g0, g1, g2⟩ := r2
    exact ⟨p, C, dx, _, v0, rfl, k2.ex _ _ h1, hC, hn, by simp [List.lookup], hQ v0 F2 H2 e2 k2 g0⟩
theorem em_fld3_1 {m : Option (α0 × α1 × α2)} (hC : Cls K C) (hn : NoAttr K C n1) (nh0 : (n1 == n0) = false) (h : EM (rO3 C n0 n1 n2 r0 r1 r2) te σ F cs m) : EM r1 (tFld K te n1) σ F cs (m.map fun z => z.2.1) := fun d q c F1 H e k Q hQ => by
  cases m with
  | none => cases q
  | some a =>
    cases q
    refine h a rfl c F1 H e k _ fun v F2 H2 e2 k2 r2 => ?_
    obtain ⟨p, dx, v0, v1, v2, rfl, h1, g0, g1, g2⟩ := r2
    exact ⟨p, C, dx, _, v1, rfl, k2.ex _ _ h1, hC, hn, by simp [List.lookup, nh0], hQ v1 F2 H2 e2 k2 g1⟩
theorem em_fld3_2 {m : Option (α0 × α1 × α2)} (hC : Cls K C) (hn : NoAttr K C n2) (nh0 : (n2 == n0) = false) (nh1 : (n2 == n1) = false) (h : EM (rO3 C n0 n1 n2 r0 r1 r2) te σ F cs m) : EM r2 (tFld K te n2) σ F cs (m.map fun z => z.2.2) := fun d q c F1 H e k Q hQ => by
  cases m with
  | none => cases q
  | some a =>
    cases q
    refine h a rfl c F1 H e k _ fun v F2 H2 e2 k2 r2 => ?_
    obtain ⟨p, dx, v0, v1, v2, rfl, h1, g0, g1, g2⟩ := r2
    exact ⟨p, C, dx, _, v2, rfl, k2.ex _ _ h1, hC, hn, by simp [List.lookup, nh0, nh1], hQ v2 F2 H2 e2 k2 g2⟩
theorem objP_O3 : ObjP C (rO3 C n0 n1 n2 r0 r1 r2) := fun F v a ⟨p, dx, v0, v1, v2, e, g, _⟩ => ⟨p, dx, _, e, g⟩
theorem objM_O3 {m : Str} (h0 : (m == n0) = false) (h1 : (m == n1) = false) (h2 : (m == n2) = false) : ObjM C m (rO3 C n0 n1 n2 r0 r1 r2) := fun F v a ⟨p, dx, v0, v1, v2, e, g, _⟩ => ⟨p, dx, _, e, g, by simp [List.lookup, h0, h1, h2]⟩
theorem a_put3_0 {i j : Nat} {p : Addr} {a : α0} {s s' : Option α0 × Option α1 × Option α2} {m : Option α0} (hC : Cls K C) (hn : NoAttr K C n0) (hx : σ[i]? = some (some (.ref p))) (hj : cs[j]? = some (p, cO3 C n0 n1 n2 r0 r1 r2 s)) (h : EM r0 te σ F cs m) (hm : m = some a) (hs : put3_0 s a = some s') (k : Cov c F cs H) (n : ∀ F2 H2, Ex F F2 → Cov c F2 (cs.set j (p, cO3 C n0 n1 n2 r0 r1 r2 s')) H2 → D.nx σ H2) : sFld K (tVar i) te n0 D σ H := by
  refine h a hm c F H (Evl.Ex.refl _) k _ fun v F2 H2 e2 k2 r2 => ⟨_, hx, ?_⟩
  obtain ⟨_, _, o, g3, dx, vs, rfl, g4⟩ := k2.at_ j hj
  obtain ⟨rfl, rfl⟩ := put3_0_some hs
  have g4 : vs = [] := g4
  subst g4
  have e : putF n0 v [] = [(n0, v)] := by
    rfl
  refine ⟨p, C, dx, _, rfl, g3, hC, hn, (by show 0 < 1000; decide), ?_⟩
  rw [e]
  exact n F2 _ e2 (k2.set j hj ⟨dx, _, rfl, v, rfl, r2⟩)
theorem q_put3_0 {i j : Nat} {p : Addr} {a : α0} {s s' : Option α0 × Option α1 × Option α2} {m : Option α0} (hC : Cls K C) (hn : NoAttr K C n0) (hx : σ[i]? = some (some (.ref p))) (hj : cs[j]? = some (p, cO3 C n0 n1 n2 r0 r1 r2 s)) (h : EM r0 te σ F cs m) (hm : m = some a) (hs : put3_0 s a = some s') (k : Cov c F cs H) (n : ∀ F2 H2, Ex F F2 → Cov c F2 (cs.set j (p, cO3 C n0 n1 n2 r0 r1 r2 s')) H2 → tz D σ H2) : tSeq (sFld K (tVar i) te n0) tz D σ H := a_put3_0 (D := { D with nx := tz D }) hC hn hx hj h hm hs k n
theorem a_put3_1 {i j : Nat} {p : Addr} {a : α1} {s s' : Option α0 × Option α1 × Option α2} {m : Option α1} (hC : Cls K C) (hn : NoAttr K C n1) (nh0 : ¬ n0 = n1) (hx : σ[i]? = some (some (.ref p))) (hj : cs[j]? = some (p, cO3 C n0 n1 n2 r0 r1 r2 s)) (h : EM r1 te σ F cs m) (hm : m = some a) (hs : put3_1 s a = some s') (k : Cov c F cs H) (n : ∀ F2 H2, Ex F F2 → Cov c F2 (cs.set j (p, cO3 C n0 n1 n2 r0 r1 r2 s')) H2 → D.nx σ H2) : sFld K (tVar i) te n1 D σ H := by
  refine h a hm c F H (Evl.Ex.refl _) k _ fun v F2 H2 e2 k2 r2 => ⟨_, hx, ?_⟩
  obtain ⟨_, _, o, g3, dx, vs, rfl, g4⟩ := k2.at_ j hj
  obtain ⟨a0, rfl, rfl⟩ := put3_1_some hs
  obtain ⟨v0, rfl, g5⟩ := g4
  have e : putF n1 v [(n0, v0)] = [(n0, v0), (n1, v)] := by
    simp [putF, nh0]
  refine ⟨p, C, dx, _, rfl, g3, hC, hn, (by show 1 < 1000; decide), ?_⟩
  rw [e]
  exact n F2 _ e2 (k2.set j hj ⟨dx, _, rfl, v0, v, rfl, g5, r2⟩)
theorem q_put3_1 {i j : Nat} {p : Addr} {a : α1} {s s' : Option α0 × Option α1 × Option α2} {m : Option α1} (hC : Cls K C) (hn : NoAttr K C n1) (nh0 : ¬ n0 = n1) (hx : σ[i]? = some (some (.ref p))) (hj : cs[j]? = some (p, cO3 C n0 n1 n2 r0 r1 r2 s)) (h : EM r1 te σ F cs m) (hm : m = some a) (hs : put3_1 s a = some s') (k : Cov c F cs H) (n : ∀ F2 H2, Ex F F2 → Cov c F2 (cs.set j (p, cO3 C n0 n1 n2 r0 r1 r2 s')) H2 → tz D σ H2) : tSeq (sFld K (tVar i) te n1) tz D σ H := a_put3_1 (D := { D with nx := tz D }) hC hn nh0 hx hj h hm hs k n
theorem a_put3_2 {i j : Nat} {p : Addr} {a : α2} {s s' : Option α0 × Option α1 × Option α2} {m : Option α2} (hC : Cls K C) (hn : NoAttr K C n2) (nh0 : ¬ n0 = n2) (nh1 : ¬ n1 = n2) (hx : σ[i]? = some (some (.ref p))) (hj : cs[j]? = some (p, cO3 C n0 n1 n2 r0 r1 r2 s)) (h : EM r2 te σ F cs m) (hm : m = some a) (hs : put3_2 s a = some s') (k : Cov c F cs H) (n : ∀ F2 H2, Ex F F2 → Cov c F2 (cs.set j (p, cO3 C n0 n1 n2 r0 r1 r2 s')) H2 → D.nx σ H2) : sFld K (tVar i) te n2 D σ H := by
  refine h a hm c F H (Evl.Ex.refl _) k _ fun v F2 H2 e2 k2 r2 => ⟨_, hx, ?_⟩
  obtain ⟨_, _, o, g3, dx, vs, rfl, g4⟩ := k2.at_ j hj
  obtain ⟨a0, a1, rfl, rfl⟩ := put3_2_some hs
  obtain ⟨v0, v1, rfl, g5, g6⟩ := g4
  have e : putF n2 v [(n0, v0), (n1, v1)] = [(n0, v0), (n1, v1), (n2, v)] := by
    simp [putF, nh0, nh1]
  refine ⟨p, C, dx, _, rfl, g3, hC, hn, (by show 2 < 1000; decide), ?_⟩
  rw [e]
  exact n F2 _ e2 (k2.set j hj ⟨dx, _, rfl, v0, v1, v, rfl, g5, g6, r2⟩)
theorem q_put3_2 {i j : Nat} {p : Addr} {a : α2} {s s' : Option α0 × Option α1 × Option α2} {m : Option α2} (hC : Cls K C) (hn : NoAttr K C n2) (nh0 : ¬ n0 = n2) (nh1 : ¬ n1 = n2) (hx : σ[i]? = some (some (.ref p))) (hj : cs[j]? = some (p, cO3 C n0 n1 n2 r0 r1 r2 s)) (h : EM r2 te σ F cs m) (hm : m = some a) (hs : put3_2 s a = some s') (k : Cov c F cs H) (n : ∀ F2 H2, Ex F F2 → Cov c F2 (cs.set j (p, cO3 C n0 n1 n2 r0 r1 r2 s')) H2 → tz D σ H2) : tSeq (sFld K (tVar i) te n2) tz D σ H := a_put3_2 (D := { D with nx := tz D }) hC hn nh0 nh1 hx hj h hm hs k n
theorem em_make3_1 {m : (Option α0 × Option α1 × Option α2) → β1 → Option (Unit × (Option α0 × Option α1 × Option α2))} {m1 : Option β1} (h1 : EM s1 t1 σ F cs m1) : EM (rO3 C n0 n1 n2 r0 r1 r2) (tMake C (MPsp1 (cO3 C n0 n1 n2 r0 r1 r2) s1 rNon m) [] E (tCons t1 tNil)) σ F cs (o1 (fun a1 => (m (none, none, none) a1).bind fun r => finO3 r.2) m1) := fun d q c F0 H0 e0 k0 Q hQ => by
  obtain ⟨b1, q1, q9⟩ := o1_some q
  obtain ⟨⟨⟨⟩, st⟩, q4, q5⟩ := bind_some q9
  refine h1 b1 q1 c F0 H0 e0 k0 _ fun v1 F1 H1 e1 k1 x1 => ?_
  intro x dx hx hdx hne
  have f9 := k1.fnone hdx
  have k8 := k1.lay (o := .own x) hdx
  have hx3 : upd H1 dx (.own x) x = none := by rw [upd_ne (fun z => hne z.symm)]; exact hx
  have k9 := k8.own0 (o := .ins C dx []) (x := cO3 C n0 n1 n2 r0 r1 r2 (none, none, none)) hx3 ⟨dx, [], rfl, rfl⟩
  have g3 := Ex.new (o := HO.own x) f9
  refine ⟨_, x, v1, (none, none, none), b1, (), st, rfl, (k9.keepN 1).base, s1.up g3 x1, q4, fun v F9 H9 kx r9 => ⟨r9, ?_⟩⟩
  have k5 := k9.call1 kx
  obtain ⟨f1, _, o, g4, dy, vs, rfl, g5⟩ := k5.head
  have q5 := finO3_some q5
  subst q5
  obtain ⟨w0, w1, w2, hv, y0, y1, y2⟩ := g5
  subst hv
  have hn : c.H0 x = none := k1.dom x hx
  have k6 := k5.freeze g4 hn
  exact hQ (.ref x) _ H9 (((e1.trans g3).trans kx.fz).trans (Ex.new f1)) k6 ⟨x, dy, w0, w1, w2, rfl, upd_same, r0.up (Ex.new f1) y0, r1.up (Ex.new f1) y1, r2.up (Ex.new f1) y2⟩
theorem em_make3_2 {m : (Option α0 × Option α1 × Option α2) → β1 → β2 → Option (Unit × (Option α0 × Option α1 × Option α2))} {m1 : Option β1} {m2 : Option β2} (h1 : EM s1 t1 σ F cs m1) (h2 : EM s2 t2 σ F cs m2) : EM (rO3 C n0 n1 n2 r0 r1 r2) (tMake C (MPsp2 (cO3 C n0 n1 n2 r0 r1 r2) s1 s2 rNon m) [] E (tCons t1 (tCons t2 tNil))) σ F cs (o2 (fun a1 a2 => (m (none, none, none) a1 a2).bind fun r => finO3 r.2) m1 m2) := fun d q c F0 H0 e0 k0 Q hQ => by
  obtain ⟨b1, b2, q1, q2, q9⟩ := o2_some q
  obtain ⟨⟨⟨⟩, st⟩, q4, q5⟩ := bind_some q9
  refine h1 b1 q1 c F0 H0 e0 k0 _ fun v1 F1 H1 e1 k1 x1 => ?_
  have f1 := e0.trans e1
  refine h2 b2 q2 c F1 H1 f1 k1 _ fun v2 F2 H2 e2 k2 x2 => ?_
  intro x dx hx hdx hne
  have f9 := k2.fnone hdx
  have k8 := k2.lay (o := .own x) hdx
  have hx3 : upd H2 dx (.own x) x = none := by rw [upd_ne (fun z => hne z.symm)]; exact hx
  have k9 := k8.own0 (o := .ins C dx []) (x := cO3 C n0 n1 n2 r0 r1 r2 (none, none, none)) hx3 ⟨dx, [], rfl, rfl⟩
  have g3 := Ex.new (o := HO.own x) f9
  refine ⟨_, x, v1, v2, (none, none, none), b1, b2, (), st, rfl, (k9.keepN 1).base, s1.up (e2.trans g3) x1, s2.up g3 x2, q4, fun v F9 H9 kx r9 => ⟨r9, ?_⟩⟩
  have k5 := k9.call1 kx
  obtain ⟨f1, _, o, g4, dy, vs, rfl, g5⟩ := k5.head
  have q5 := finO3_some q5
  subst q5
  obtain ⟨w0, w1, w2, hv, y0, y1, y2⟩ := g5
  subst hv
  have hn : c.H0 x = none := k2.dom x hx
  have k6 := k5.freeze g4 hn
  exact hQ (.ref x) _ H9 ((((e1.trans e2).trans g3).trans kx.fz).trans (Ex.new f1)) k6 ⟨x, dy, w0, w1, w2, rfl, upd_same, r0.up (Ex.new f1) y0, r1.up (Ex.new f1) y1, r2.up (Ex.new f1) y2⟩
theorem em_make3_3 {m : (Option α0 × Option α1 × Option α2) → β1 → β2 → β3 → Option (Unit × (Option α0 × Option α1 × Option α2))} {m1 : Option β1} {m2 : Option β2} {m3 : Option β3} (h1 : EM s1 t1 σ F cs m1) (h2 : EM s2 t2 σ F cs m2) (h3 : EM s3 t3 σ F cs m3) : EM (rO3 C n0 n1 n2 r0 r1 r2) (tMake C (MPsp3 (cO3 C n0 n1 n2 r0 r1 r2) s1 s2 s3 rNon m) [] E (tCons t1 (tCons t2 (tCons t3 tNil)))) σ F cs (o3 (fun a1 a2 a3 => (m (none, none, none) a1 a2 a3).bind fun r => finO3 r.2) m1 m2 m3) := fun d q c F0 H0 e0 k0 Q hQ => by
  obtain ⟨b1, b2, b3, q1, q2, q3, q9⟩ := o3_some q
  obtain ⟨⟨⟨⟩, st⟩, q4, q5⟩ := bind_some q9
  refine h1 b1 q1 c F0 H0 e0 k0 _ fun v1 F1 H1 e1 k1 x1 => ?_
  have f1 := e0.trans e1
  refine h2 b2 q2 c F1 H1 f1 k1 _ fun v2 F2 H2 e2 k2 x2 => ?_
  have f2 := f1.trans e2
  refine h3 b3 q3 c F2 H2 f2 k2 _ fun v3 F3 H3 e3 k3 x3 => ?_
  intro x dx hx hdx hne
  have f9 := k3.fnone hdx
  have k8 := k3.lay (o := .own x) hdx
  have hx3 : upd H3 dx (.own x) x = none := by rw [upd_ne (fun z => hne z.symm)]; exact hx
  have k9 := k8.own0 (o := .ins C dx []) (x := cO3 C n0 n1 n2 r0 r1 r2 (none, none, none)) hx3 ⟨dx, [], rfl, rfl⟩
  have g3 := Ex.new (o := HO.own x) f9
  refine ⟨_, x, v1, v2, v3, (none, none, none), b1, b2, b3, (), st, rfl, (k9.keepN 1).base, s1.up ((e2.trans e3).trans g3) x1, s2.up (e3.trans g3) x2, s3.up g3 x3, q4, fun v F9 H9 kx r9 => ⟨r9, ?_⟩⟩
  have k5 := k9.call1 kx
  obtain ⟨f1, _, o, g4, dy, vs, rfl, g5⟩ := k5.head
  have q5 := finO3_some q5
  subst q5
  obtain ⟨w0, w1, w2, hv, y0, y1, y2⟩ := g5
  subst hv
  have hn : c.H0 x = none := k3.dom x hx
  have k6 := k5.freeze g4 hn
  exact hQ (.ref x) _ H9 (((((e1.trans e2).trans e3).trans g3).trans kx.fz).trans (Ex.new f1)) k6 ⟨x, dy, w0, w1, w2, rfl, upd_same, r0.up (Ex.new f1) y0, r1.up (Ex.new f1) y1, r2.up (Ex.new f1) y2⟩
end
section
variable {α0 α1 α2 α3 : Type}
def rO4 (C : Addr) (n0 n1 n2 n3 : Str) (r0 : Rp α0) (r1 : Rp α1) (r2 : Rp α2) (r3 : Rp α3) : Rp (α0 × α1 × α2 × α3) := ⟨fun H v d => ∃ a dx v0 v1 v2 v3, v = .ref a ∧ H a = some (.ins C dx [(n0, v0), (n1, v1), (n2, v2), (n3, v3)]) ∧ r0.r H v0 d.1 ∧ r1.r H v1 d.2.1 ∧ r2.r H v2 d.2.2.1 ∧ r3.r H v3 d.2.2.2,
  fun e ⟨a, dx, v0, v1, v2, v3, h1, h2, h3, h4, h5, h6⟩ => ⟨a, dx, v0, v1, v2, v3, h1, e _ _ h2, r0.up e h3, r1.up e h4, r2.up e h5, r3.up e h6⟩⟩
/-- an object being made: the fields so far -/
def cO4P (n0 n1 n2 n3 : Str) (r0 : Rp α0) (r1 : Rp α1) (r2 : Rp α2) (r3 : Rp α3) (s : Option α0 × Option α1 × Option α2 × Option α3) (F : Hp) (vs : List (Str × V)) : Prop := match s with
  | (none, none, none, none) => vs = []
  | (some a0, none, none, none) => ∃ v0, vs = [(n0, v0)] ∧ r0.r F v0 a0
  | (some a0, some a1, none, none) => ∃ v0 v1, vs = [(n0, v0), (n1, v1)] ∧ r0.r F v0 a0 ∧ r1.r F v1 a1
  | (some a0, some a1, some a2, none) => ∃ v0 v1 v2, vs = [(n0, v0), (n1, v1), (n2, v2)] ∧ r0.r F v0 a0 ∧ r1.r F v1 a1 ∧ r2.r F v2 a2
  | (some a0, some a1, some a2, some a3) => ∃ v0 v1 v2 v3, vs = [(n0, v0), (n1, v1), (n2, v2), (n3, v3)] ∧ r0.r F v0 a0 ∧ r1.r F v1 a1 ∧ r2.r F v2 a2 ∧ r3.r F v3 a3
  | _ => False
theorem cO4P_up {n0 n1 n2 n3 : Str} {r0 : Rp α0} {r1 : Rp α1} {r2 : Rp α2} {r3 : Rp α3} {s : Option α0 × Option α1 × Option α2 × Option α3} {F F' : Hp} {vs : List (Str × V)} (e : Ex F F') (h : cO4P n0 n1 n2 n3 r0 r1 r2 r3 s F vs) : cO4P n0 n1 n2 n3 r0 r1 r2 r3 s F' vs := by
  unfold cO4P at h ⊢
  split at h
  · exact h
  · obtain ⟨v0, h, g0⟩ := h
    exact ⟨v0, h, r0.up e g0⟩
  · obtain ⟨v0, v1, h, g0, g1⟩ := h
    exact ⟨v0, v1, h, r0.up e g0, r1.up e g1⟩
  · obtain ⟨v0, v1, v2, h, g0, g1, g2⟩ := h
    exact ⟨v0, v1, v2, h, r0.up e g0, r1.up e g1, r2.up e g2⟩
  · obtain ⟨v0, v1, v2, v3, h, g0, g1, g2, g3⟩ := h
    exact ⟨v0, v1, v2, v3, h, r0.up e g0, r1.up e g1, r2.up e g2, r3.up e g3⟩
  · exact h
def cO4 (C : Addr) (n0 n1 n2 n3 : Str) (r0 : Rp α0) (r1 : Rp α1) (r2 : Rp α2) (r3 : Rp α3) (s : Option α0 × Option α1 × Option α2 × Option α3) : Cp := ⟨fun F o => ∃ dx vs, o = .ins C dx vs ∧ cO4P n0 n1 n2 n3 r0 r1 r2 r3 s F vs, fun e ⟨dx, vs, h1, h2⟩ => ⟨dx, vs, h1, cO4P_up e h2⟩, fun ⟨_, _, h, _⟩ => by subst h; trivial⟩
def finO4 (s : Option α0 × Option α1 × Option α2 × Option α3) : Option (α0 × α1 × α2 × α3) := match s with
  | (some a0, some a1, some a2, some a3) => some (a0, a1, a2, a3)
  | _ => none
def put4_0 (s : Option α0 × Option α1 × Option α2 × Option α3) (a : α0) : Option (Option α0 × Option α1 × Option α2 × Option α3) := match s with
  | (none, none, none, none) => some ((some a, none, none, none))
  | _ => none
def put4_1 (s : Option α0 × Option α1 × Option α2 × Option α3) (a : α1) : Option (Option α0 × Option α1 × Option α2 × Option α3) := match s with
  | (some a0, none, none, none) => some ((some a0, some a, none, none))
  | _ => none
def put4_2 (s : Option α0 × Option α1 × Option α2 × Option α3) (a : α2) : Option (Option α0 × Option α1 × Option α2 × Option α3) := match s with
  | (some a0, some a1, none, none) => some ((some a0, some a1, some a, none))
  | _ => none
def put4_3 (s : Option α0 × Option α1 × Option α2 × Option α3) (a : α3) : Option (Option α0 × Option α1 × Option α2 × Option α3) := match s with
  | (some a0, some a1, some a2, none) => some ((some a0, some a1, some a2, some a))
  | _ => none
theorem finO4_some {s : Option α0 × Option α1 × Option α2 × Option α3} {d : α0 × α1 × α2 × α3} (h : finO4 s = some d) : s = (some d.1, some d.2.1, some d.2.2.1, some d.2.2.2) := by
  rcases s with ⟨_ | _, _ | _, _ | _, _ | _⟩
  all_goals first
    | (cases h; rfl)
    | cases h
theorem put4_0_some {s s' : Option α0 × Option α1 × Option α2 × Option α3} {a : α0} (h : put4_0 s a = some s') : s = (none, none, none, none) ∧ s' = (some a, none, none, none) := by
  rcases s with ⟨_ | _, _ | _, _ | _, _ | _⟩
  all_goals first
    | (cases h; exact ⟨rfl, rfl⟩)
    | cases h
theorem put4_1_some {s s' : Option α0 × Option α1 × Option α2 × Option α3} {a : α1} (h : put4_1 s a = some s') : ∃ a0, s = (some a0, none, none, none) ∧ s' = (some a0, some a, none, none) := by
  rcases s with ⟨_ | _, _ | _, _ | _, _ | _⟩
  all_goals first
    | (cases h; exact ⟨_, rfl, rfl⟩)
    | cases h
theorem put4_2_some {s s' : Option α0 × Option α1 × Option α2 × Option α3} {a : α2} (h : put4_2 s a = some s') : ∃ a0, ∃ a1, s = (some a0, some a1, none, none) ∧ s' = (some a0, some a1, some a, none) := by
  rcases s with ⟨_ | _, _ | _, _ | _, _ | _⟩
  all_goals first
    | (cases h; exact ⟨_, _, rfl, rfl⟩)
    | cases h
theorem put4_3_some {s s' : Option α0 × Option α1 × Option α2 × Option α3} {a : α3} (h : put4_3 s a = some s') : ∃ a0, ∃ a1, ∃ a2, s = (some a0, some a1, some a2, none) ∧ s' = (some a0, some a1, some a2, some a) := by
  rcases s with ⟨_ | _, _ | _, _ | _, _ | _⟩
  all_goals first
    | (cases h; exact ⟨_, _, _, rfl, rfl⟩)
    | cases h
end
section
variable {α0 α1 α2 α3 β1 β2 β3 ρ ω : Type} {r0 : Rp α0} {r1 : Rp α1} {r2 : Rp α2} {r3 : Rp α3} {s1 : Rp β1} {s2 : Rp β2} {s3 : Rp β3} {rr : Rp ρ} {C : Addr} {n0 n1 n2 n3 : Str} {σ : L2.St} {F H : Hp} {cs : Cs} {K : PySem.W.Frag} {te t1 t2 t3 : TE} {D : Ends} {c : Act} {tz : TS} {E : XK}
theorem em_fld4_0 {m : Option (α0 × α1 × α2 × α3)} (hC : Cls K C) (hn : NoAttr K C n0) (h : EM (rO4 C n0 n1 n2 n3 r0 r1 r2 r3) te σ F cs m) : EM r0 (tFld K te n0) σ F cs (m.map fun z => z.1) := fun d q c F1 H e k Q hQ => by
  cases m with
  | none => cases q
  | some a =>
    cases q
    refine h a rfl c F1 H e k _ fun v F2 H2 e2 k2 r2 => ?_
    obtain ⟨p, dx, v0, v1, v2, v3, rfl, h1, g0, g1, g2, g3⟩ := r2
    exact ⟨p, C, dx, _, v0, rfl, k2.ex _ _ h1, hC, hn, by simp [List.lookup], hQ v0 F2 H2 e2 k2 g0⟩
theorem em_fld4_1 {m : Option (α0 × α1 × α2 × α3)} (hC : Cls K C) (hn : NoAttr K C n1) (nh0 : (n1 == n0) = false) (h : EM (rO4 C n0 n1 n2 n3 r0 r1 r2 r3) te σ F cs m) : EM r1 (tFld K te n1) σ F cs (m.map fun z => z.2.1) := fun d q c F1 H e k Q hQ => by
  cases m with
  | none => cases q
  | some a =>
    cases q
    refine h a rfl c F1 H e k _ fun v F2 H2 e2 k2 r2 => ?_
    obtain ⟨p, dx, v0, v1, v2, v3, rfl, h1, g0, g1, g2, g3⟩ := r2
    exact ⟨p, C, dx, _, v1, rfl, k2.ex _ _ h1, hC, hn, by simp [List.lookup, nh0], hQ v1 F2 H2 e2 k2 g1⟩
theorem em_fld4_2 {m : Option (α0 × α1 × α2 × α3)} (hC : Cls K C) (hn : NoAttr K C n2) (nh0 : (n2 == n0) = false) (nh1 : (n2 == n1) = false) (h : EM (rO4 C n0 n1 n2 n3 r0 r1 r2 r3) te σ F cs m) : EM r2 (tFld K te n2) σ F cs (m.map fun z => z.2.2.1) := fun d q c F1 H e k Q hQ => by
  cases m with
  | none => cases q
  | some a =>
    cases q
    refine h a rfl c F1 H e k _ fun v F2 H2 e2 k2 r2 => ?_
    obtain ⟨p, dx, v0, v1, v2, v3, rfl, h1, g0, g1, g2, g3⟩ := r2
    exact ⟨p, C, dx, _, v2, rfl, k2.ex _ _ h1, hC, hn, by simp [List.lookup, nh0, nh1], hQ v2 F2 H2 e2 k2 g2⟩
theorem em_fld4_3 {m : Option (α0 × α1 × α2 × α3)} (hC : Cls K C) (hn : NoAttr K C n3) (nh0 : (n3 == n0) = false) (nh1 : (n3 == n1) = false) (nh2 : (n3 == n2) = false) (h : EM (rO4 C n0 n1 n2 n3 r0 r1 r2 r3) te σ F cs m) : EM r3 (tFld K te n3) σ F cs (m.map fun z => z.2.2.2) := fun d q c F1 H e k Q hQ => by
  cases m with
  | none => cases q
  | some a =>
    cases q
    refine h a rfl c F1 H e k _ fun v F2 H2 e2 k2 r2 => ?_
    obtain ⟨p, dx, v0, v1, v2, v3, rfl, h1, g0, g1, g2, g3⟩ := r2
    exact ⟨p, C, dx, _, v3, rfl, k2.ex _ _ h1, hC, hn, by simp [List.lookup, nh0, nh1, nh2], hQ v3 F2 H2 e2 k2 g3⟩
theorem objP_O4 : ObjP C (rO4 C n0 n1 n2 n3 r0 r1 r2 r3) := fun F v a ⟨p, dx, v0, v1, v2, v3, e, g, _⟩ => ⟨p, dx, _, e, g⟩
theorem objM_O4 {m : Str} (h0 : (m == n0) = false) (h1 : (m == n1) = false) (h2 : (m == n2) = false) (h3 : (m == n3) = false) : ObjM C m (rO4 C n0 n1 n2 n3 r0 r1 r2 r3) := fun F v a ⟨p, dx, v0, v1, v2, v3, e, g, _⟩ => ⟨p, dx, _, e, g, by simp [List.lookup, h0, h1, h2, h3]⟩
theorem a_put4_0 {i j : Nat} {p : Addr} {a : α0} {s s' : Option α0 × Option α1 × Option α2 × Option α3} {m : Option α0} (hC : Cls K C) (hn : NoAttr K C n0) (hx : σ[i]? = some (some (.ref p))) (hj : cs[j]? = some (p, cO4 C n0 n1 n2 n3 r0 r1 r2 r3 s)) (h : EM r0 te σ F cs m) (hm : m = some a) (hs : put4_0 s a = some s') (k : Cov c F cs H) (n : ∀ F2 H2, Ex F F2 → Cov c F2 (cs.set j (p, cO4 C n0 n1 n2 n3 r0 r1 r2 r3 s')) H2 → D.nx σ H2) : sFld K (tVar i) te n0 D σ H := by
  refine h a hm c F H (Evl.Ex.refl _) k _ fun v F2 H2 e2 k2 r2 => ⟨_, hx, ?_⟩
  obtain ⟨_, _, o, g3, dx, vs, rfl, g4⟩ := k2.at_ j hj
  obtain ⟨rfl, rfl⟩ := put4_0_some hs
  have g4 : vs = [] := g4
  subst g4
  have e : putF n0 v [] = [(n0, v)] := by
    rfl
  refine ⟨p, C, dx, _, rfl, g3, hC, hn, (by show 0 < 1000; decide), ?_⟩
  rw [e]
  exact n F2 _ e2 (k2.set j hj ⟨dx, _, rfl, v, rfl, r2⟩)
theorem q_put4_0 {i j : Nat} {p : Addr} {a : α0} {s s' : Option α0 × Option α1 × Option α2 × Option α3} {m : Option α0} (hC : Cls K C) (hn : NoAttr K C n0) (hx : σ[i]? = some (some (.ref p))) (hj : cs[j]? = some (p, cO4 C n0 n1 n2 n3 r0 r1 r2 r3 s)) (h : EM r0 te σ F cs m) (hm : m = some a) (hs : put4_0 s a = some s') (k : Cov c F cs H) (n : ∀ F2 H2, Ex F F2 → Cov c F2 (cs.set j (p, cO4 C n0 n1 n2 n3 r0 r1 r2 r3 s')) H2 → tz D σ H2) : tSeq (sFld K (tVar i) te n0) tz D σ H := a_put4_0 (D := { D with nx := tz D }) hC hn hx hj h hm hs k n
theorem a_put4_1 {i j : Nat} {p : Addr} {a : α1} {s s' : Option α0 × Option α1 × Option α2 × Option α3} {m : Option α1} (hC : Cls K C) (hn : NoAttr K C n1) (nh0 : ¬ n0 = n1) (hx : σ[i]? = some (some (.ref p))) (hj : cs[j]? = some (p, cO4 C n0 n1 n2 n3 r0 r1 r2 r3 s)) (h : EM r1 te σ F cs m) (hm : m = some a) (hs : put4_1 s a = some s') (k : Cov c F cs H) (n : ∀ F2 H2, Ex F F2 → Cov c F2 (cs.set j (p, cO4 C n0 n1 n2 n3 r0 r1 r2 r3 s')) H2 → D.nx σ H2) : sFld K (tVar i) te n1 D σ H := by
  refine h a hm c F H (Evl.Ex.refl _) k _ fun v F2 H2 e2 k2 r2 => ⟨_, hx, ?_⟩
  obtain ⟨_, _, o, g3, dx, vs, rfl, g4⟩ := k2.at_ j hj
  obtain ⟨a0, rfl, rfl⟩ := put4_1_some hs
  obtain ⟨v0, rfl, g5⟩ := g4
  have e : putF n1 v [(n0, v0)] = [(n0, v0), (n1, v)] := by
    simp [putF, nh0]
  refine ⟨p, C, dx, _, rfl, g3, hC, hn, (by show 1 < 1000; decide), ?_⟩
  rw [e]
  exact n F2 _ e2 (k2.set j hj ⟨dx, _, rfl, v0, v, rfl, g5, r2⟩)
theorem q_put4_1 {i j : Nat} {p : Addr} {a : α1} {s s' : Option α0 × Option α1 × Option α2 × Option α3} {m : Option α1} (hC : Cls K C) (hn : NoAttr K C n1) (nh0 : ¬ n0 = n1) (hx : σ[i]? = some (some (.ref p))) (hj : cs[j]? = some (p, cO4 C n0 n1 n2 n3 r0 r1 r2 r3 s)) (h : EM r1 te σ F cs m) (hm : m = some a) (hs : put4_1 s a = some s') (k : Cov c F cs H) (n : ∀ F2 H2, Ex F F2 → Cov c F2 (cs.set j (p, cO4 C n0 n1 n2 n3 r0 r1 r2 r3 s')) H2 → tz D σ H2) : tSeq (sFld K (tVar i) te n1) tz D σ H := a_put4_1 (D := { D with nx := tz D }) hC hn nh0 hx hj h hm hs k n
theorem a_put4_2 {i j : Nat} {p : Addr} {a : α2} {s s' : Option α0 × Option α1 × Option α2 × Option α3} {m : Option α2} (hC : Cls K C) (hn : NoAttr K C n2) (nh0 : ¬ n0 = n2) (nh1 : ¬ n1 = n2) (hx : σ[i]? = some (some (.ref p))) (hj : cs[j]? = some (p, cO4 C n0 n1 n2 n3 r0 r1 r2 r3 s)) (h : EM r2 te σ F cs m) (hm : m = some a) (hs : put4_2 s a = some s') (k : Cov c F cs H) (n : ∀ F2 H2, Ex F F2 → Cov c F2 (cs.set j (p, cO4 C n0 n1 n2 n3 r0 r1 r2 r3 s')) H2 → D.nx σ H2) : sFld K (tVar i) te n2 D σ H := by
  refine h a hm c F H (Evl.Ex.refl _) k _ fun v F2 H2 e2 k2 r2 => ⟨_, hx, ?_⟩
  obtain ⟨_, _, o, g3, dx, vs, rfl, g4⟩ := k2.at_ j hj
  obtain ⟨a0, a1, rfl, rfl⟩ := put4_2_some hs
  obtain ⟨v0, v1, rfl, g5, g6⟩ := g4
  have e : putF n2 v [(n0, v0), (n1, v1)] = [(n0, v0), (n1, v1), (n2, v)] := by
    simp [putF, nh0, nh1]
  refine ⟨p, C, dx, _, rfl, g3, hC, hn, (by show 2 < 1000; decide), ?_⟩
  rw [e]
  exact n F2 _ e2 (k2.set j hj ⟨dx, _, rfl, v0, v1, v, rfl, g5, g6, r2⟩)
theorem q_put4_2 {i j : Nat} {p : Addr} {a : α2} {s s' : Option α0 × Option α1 × Option α2 × Option α3} {m : Option α2} (hC : Cls K C) (hn : NoAttr K C n2) (nh0 : ¬ n0 = n2) (nh1 : ¬ n1 = n2) (hx : σ[i]? = some (some (.ref p))) (hj : cs[j]? = some (p, cO4 C n0 n1 n2 n3 r0 r1 r2 r3 s)) (h : EM r2 te σ F cs m) (hm : m = some a) (hs : put4_2 s a = some s') (k : Cov c F cs H) (n : ∀ F2 H2, Ex F F2 → Cov c F2 (cs.set j (p, cO4 C n0 n1 n2 n3 r0 r1 r2 r3 s')) H2 → tz D σ H2) : tSeq (sFld K (tVar i) te n2) tz D σ H := a_put4_2 (D := { D with nx := tz D }) hC hn nh0 nh1 hx hj h hm hs k n
theorem a_put4_3 {i j : Nat} {p : Addr} {a : α3} {s s' : Option α0 × Option α1 × Option α2 × Option α3} {m : Option α3} (hC : Cls K C) (hn : NoAttr K C n3) (nh0 : ¬ n0 = n3) (nh1 : ¬ n1 = n3) (nh2 : ¬ n2 = n3) (hx : σ[i]? = some (some (.ref p))) (hj : cs[j]? = some (p, cO4 C n0 n1 n2 n3 r0 r1 r2 r3 s)) (h : EM r3 te σ F cs m) (hm : m = some a) (hs : put4_3 s a = some s') (k : Cov c F cs H) (n : ∀ F2 H2, Ex F F2 → Cov c F2 (cs.set j (p, cO4 C n0 n1 n2 n3 r0 r1 r2 r3 s')) H2 → D.nx σ H2) : sFld K (tVar i) te n3 D σ H := by
  refine h a hm c F H (Evl.Ex.refl _) k _ fun v F2 H2 e2 k2 r2 => ⟨_, hx, ?_⟩
  obtain ⟨_, _, o, g3, dx, vs, rfl, g4⟩ := k2.at_ j hj
  obtain ⟨a0, a1, a2, rfl, rfl⟩ := put4_3_some hs
  obtain ⟨v0, v1, v2, rfl, g5, g6, g7⟩ := g4
  have e : putF n3 v [(n0, v0), (n1, v1), (n2, v2)] = [(n0, v0), (n1, v1), (n2, v2), (n3, v)] := by
    simp [putF, nh0, nh1, nh2]
  refine ⟨p, C, dx, _, rfl, g3, hC, hn, (by show 3 < 1000; decide), ?_⟩
  rw [e]
  exact n F2 _ e2 (k2.set j hj ⟨dx, _, rfl, v0, v1, v2, v, rfl, g5, g6, g7, r2⟩)
theorem q_put4_3 {i j : Nat} {p : Addr} {a : α3} {s s' : Option α0 × Option α1 × Option α2 × Option α3} {m : Option α3} (hC : Cls K C) (hn : NoAttr K C n3) (nh0 : ¬ n0 = n3) (nh1 : ¬ n1 = n3) (nh2 : ¬ n2 = n3) (hx : σ[i]? = some (some (.ref p))) (hj : cs[j]? = some (p, cO4 C n0 n1 n2 n3 r0 r1 r2 r3 s)) (h : EM r3 te σ F cs m) (hm : m = some a) (hs : put4_3 s a = some s') (k : Cov c F cs H) (n : ∀ F2 H2, Ex F F2 → Cov c F2 (cs.set j (p, cO4 C n0 n1 n2 n3 r0 r1 r2 r3 s')) H2 → tz D σ H2) : tSeq (sFld K (tVar i) te n3) tz D σ H := a_put4_3 (D := { D with nx := tz D }) hC hn nh0 nh1 nh2 hx hj h hm hs k n
theorem em_make4_1 {m : (Option α0 × Option α1 × Option α2 × Option α3) → β1 → Option (Unit × (Option α0 × Option α1 × Option α2 × Option α3))} {m1 : Option β1} (h1 : EM s1 t1 σ F cs m1) : EM (rO4 C n0 n1 n2 n3 r0 r1 r2 r3) (tMake C (MPsp1 (cO4 C n0 n1 n2 n3 r0 r1 r2 r3) s1 rNon m) [] E (tCons t1 tNil)) σ F cs (o1 (fun a1 => (m (none, none, none, none) a1).bind fun r => finO4 r.2) m1) := fun d q c F0 H0 e0 k0 Q hQ => by
  obtain ⟨b1, q1, q9⟩ := o1_some q
  obtain ⟨⟨⟨⟩, st⟩, q4, q5⟩ := bind_some q9
  refine h1 b1 q1 c F0 H0 e0 k0 _ fun v1 F1 H1 e1 k1 x1 => ?_
  intro x dx hx hdx hne
  have f9 := k1.fnone hdx
  have k8 := k1.lay (o := .own x) hdx
  have hx3 : upd H1 dx (.own x) x = none := by rw [upd_ne (fun z => hne z.symm)]; exact hx
  have k9 := k8.own0 (o := .ins C dx []) (x := cO4 C n0 n1 n2 n3 r0 r1 r2 r3 (none, none, none, none)) hx3 ⟨dx, [], rfl, rfl⟩
  have g3 := Ex.new (o := HO.own x) f9
  refine ⟨_, x, v1, (none, none, none, none), b1, (), st, rfl, (k9.keepN 1).base, s1.up g3 x1, q4, fun v F9 H9 kx r9 => ⟨r9, ?_⟩⟩
  have k5 := k9.call1 kx
  obtain ⟨f1, _, o, g4, dy, vs, rfl, g5⟩ := k5.head
  have q5 := finO4_some q5
  subst q5
  obtain ⟨w0, w1, w2, w3, hv, y0, y1, y2, y3⟩ := g5
  subst hv
  have hn : c.H0 x = none := k1.dom x hx
  have k6 := k5.freeze g4 hn
  exact hQ (.ref x) _ H9 (((e1.trans g3).trans kx.fz).trans (Ex.new f1)) k6 ⟨x, dy, w0, w1, w2, w3, rfl, upd_same, r0.up (Ex.new f1) y0, r1.up (Ex.new f1) y1, r2.up (Ex.new f1) y2, r3.up (Ex.new f1) y3⟩
theorem em_make4_2 {m : (Option α0 × Option α1 × Option α2 × Option α3) → β1 → β2 → Option (Unit × (Option α0 × Option α1 × Option α2 × Option α3))} {m1 : Option β1} {m2 : Option β2} (h1 : EM s1 t1 σ F cs m1) (h2 : EM s2 t2 σ F cs m2) : EM (rO4 C n0 n1 n2 n3 r0 r1 r2 r3) (tMake C (MPsp2 (cO4 C n0 n1 n2 n3 r0 r1 r2 r3) s1 s2 rNon m) [] E (tCons t1 (tCons t2 tNil))) σ F cs (o2 (fun a1 a2 => (m (none, none, none, none) a1 a2).bind fun r => finO4 r.2) m1 m2) := fun d q c F0 H0 e0 k0 Q hQ => by
  obtain ⟨b1, b2, q1, q2, q9⟩ := o2_some q
  obtain ⟨⟨⟨⟩, st⟩, q4, q5⟩ := bind_some q9
  refine h1 b1 q1 c F0 H0 e0 k0 _ fun v1 F1 H1 e1 k1 x1 => ?_
  have f1 := e0.trans e1
  refine h2 b2 q2 c F1 H1 f1 k1 _ fun v2 F2 H2 e2 k2 x2 => ?_
  intro x dx hx hdx hne
  have f9 := k2.fnone hdx
  have k8 := k2.lay (o := .own x) hdx
  have hx3 : upd H2 dx (.own x) x = none := by rw [upd_ne (fun z => hne z.symm)]; exact hx
  have k9 := k8.own0 (o := .ins C dx []) (x := cO4 C n0 n1 n2 n3 r0 r1 r2 r3 (none, none, none, none)) hx3 ⟨dx, [], rfl, rfl⟩
  have g3 := Ex.new (o := HO.own x) f9
  refine ⟨_, x, v1, v2, (none, none, none, none), b1, b2, (), st, rfl, (k9.keepN 1).base, s1.up (e2.trans g3) x1, s2.up g3 x2, q4, fun v F9 H9 kx r9 => ⟨r9, ?_⟩⟩
  have k5 := k9.call1 kx
  obtain ⟨f1, _, o, g4, dy, vs, rfl, g5⟩ := k5.head
  have q5 := finO4_some q5
  subst q5
  obtain ⟨w0, w1, w2, w3, hv, y0, y1, y2, y3⟩ := g5
  subst hv
  have hn : c.H0 x = none := k2.dom x hx
  have k6 := k5.freeze g4 hn
  exact hQ (.ref x) _ H9 ((((e1.trans e2).trans g3).trans kx.fz).trans (Ex.new f1)) k6 ⟨x, dy, w0, w1, w2, w3, rfl, upd_same, r0.up (Ex.new f1) y0, r1.up (Ex.new f1) y1, r2.up (Ex.new f1) y2, r3.up (Ex.new f1) y3⟩
theorem em_make4_3 {m : (Option α0 × Option α1 × Option α2 × Option α3) → β1 → β2 → β3 → Option (Unit × (Option α0 × Option α1 × Option α2 × Option α3))} {m1 : Option β1} {m2 : Option β2} {m3 : Option β3} (h1 : EM s1 t1 σ F cs m1) (h2 : EM s2 t2 σ F cs m2) (h3 : EM s3 t3 σ F cs m3) : EM (rO4 C n0 n1 n2 n3 r0 r1 r2 r3) (tMake C (MPsp3 (cO4 C n0 n1 n2 n3 r0 r1 r2 r3) s1 s2 s3 rNon m) [] E (tCons t1 (tCons t2 (tCons t3 tNil)))) σ F cs (o3 (fun a1 a2 a3 => (m (none, none, none, none) a1 a2 a3).bind fun r => finO4 r.2) m1 m2 m3) := fun d q c F0 H0 e0 k0 Q hQ => by
  obtain ⟨b1, b2, b3, q1, q2, q3, q9⟩ := o3_some q
  obtain ⟨⟨⟨⟩, st⟩, q4, q5⟩ := bind_some q9
  refine h1 b1 q1 c F0 H0 e0 k0 _ fun v1 F1 H1 e1 k1 x1 => ?_
  have f1 := e0.trans e1
  refine h2 b2 q2 c F1 H1 f1 k1 _ fun v2 F2 H2 e2 k2 x2 => ?_
  have f2 := f1.trans e2
  refine h3 b3 q3 c F2 H2 f2 k2 _ fun v3 F3 H3 e3 k3 x3 => ?_
  intro x dx hx hdx hne
  have f9 := k3.fnone hdx
  have k8 := k3.lay (o := .own x) hdx
  have hx3 : upd H3 dx (.own x) x = none := by rw [upd_ne (fun z => hne z.symm)]; exact hx
  have k9 := k8.own0 (o := .ins C dx []) (x := cO4 C n0 n1 n2 n3 r0 r1 r2 r3 (none, none, none, none)) hx3 ⟨dx, [], rfl, rfl⟩
  have g3 := Ex.new (o := HO.own x) f9
  refine ⟨_, x, v1, v2, v3, (none, none, none, none), b1, b2, b3, (), st, rfl, (k9.keepN 1).base, s1.up ((e2.trans e3).trans g3) x1, s2.up (e3.trans g3) x2, s3.up g3 x3, q4, fun v F9 H9 kx r9 => ⟨r9, ?_⟩⟩
  have k5 := k9.call1 kx
  obtain ⟨f1, _, o, g4, dy, vs, rfl, g5⟩ := k5.head
  have q5 := finO4_some q5
  subst q5
  obtain ⟨w0, w1, w2, w3, hv, y0, y1, y2, y3⟩ := g5
  subst hv
  have hn : c.H0 x = none := k3.dom x hx
  have k6 := k5.freeze g4 hn
  exact hQ (.ref x) _ H9 (((((e1.trans e2).trans e3).trans g3).trans kx.fz).trans (Ex.new f1)) k6 ⟨x, dy, w0, w1, w2, w3, rfl, upd_same, r0.up (Ex.new f1) y0, r1.up (Ex.new f1) y1, r2.up (Ex.new f1) y2, r3.up (Ex.new f1) y3⟩
end
end Mw

set_option maxHeartbeats 2000000
/-! dicts whose keys are tuples of ints; sorted lists -/
namespace Mw
open PySem L2
open Evl (Ex)
section
variable {α β : Type}
def dGet (ds : List (List Int × β)) (k : List Int) : Option β := (ds.find? fun d => decide (d.1 = k)).map (·.2)
def dPut (ds : List (List Int × β)) (k : List Int) (x : β) : List (List Int × β) := if (ds.any fun d => decide (d.1 = k)) = true then ds.map fun d => if d.1 = k then (d.1, x) else d else ds ++ [(k, x)]
def dInG (k : List Int) (ds : List (List Int × β)) : Option Bool := some (dGet ds k).isSome
def dNotInG (k : List Int) (ds : List (List Int × β)) : Option Bool := some (!(dGet ds k).isSome)
def dGetG (ds : List (List Int × β)) (k : List Int) : Option β := dGet ds k
def dPutG (ds : List (List Int × β)) (k : List Int) (x : β) : Option (List (List Int × β)) := if ds.length ≤ 16000000 then some (dPut ds k x) else none
abbrev kI (k : List Int) : List L2.Key := k.map Sum.inl
theorem kI_inj : ∀ {a b : List Int}, kI a = kI b → a = b
  | [], [], _ => rfl
  | [], _ :: _, h => by cases h
  | _ :: _, [], h => by cases h
  | x :: a, y :: b, h => by
    have h1 : (Sum.inl x : L2.Key) :: kI a = Sum.inl y :: kI b := h
    injection h1 with h2 h3
    injection h2 with h2
    rw [h2, kI_inj h3]
theorem kI_kV (k : List Int) : (kI k).map kV = k.map V.int := by
  rw [List.map_map]
  rfl
abbrev Rkv (rb : Rp β) (F : Hp) : List (List L2.Key × V) → List (List Int × β) → Prop := Paired fun kv d => kv.1 = kI d.1 ∧ rb.r F kv.2 d.2
variable {rb : Rp β} {F F' : Hp}
theorem Rkv.up {kvs : List (List L2.Key × V)} {ds : List (List Int × β)} (e : Ex F F') (h : Rkv rb F kvs ds) : Rkv rb F' kvs ds := L2.Paired.mapP h fun _ _ q => ⟨q.1, rb.up e q.2⟩
theorem Rkv.get {k : List Int} : ∀ {kvs : List (List L2.Key × V)} {ds : List (List Int × β)}, Rkv rb F kvs ds → match dGet ds k with
    | none => valV kvs (kI k) = none
    | some x => ∃ v, valV kvs (kI k) = some v ∧ rb.r F v x
  | [], [], .nil => rfl
  | kv :: kvs, d :: ds, .cons r t => by
    have ih := Rkv.get (k := k) t
    unfold dGet valV at ih ⊢
    by_cases q : d.1 = k
    · have q2 : kv.1 = kI k := by rw [r.1, q]
      rw [List.find?_cons_of_pos (by simpa using q), List.find?_cons_of_pos (by simpa using q2)]
      exact ⟨kv.2, rfl, r.2⟩
    · have q2 : ¬ kv.1 = kI k := fun z => q (kI_inj (by rw [← r.1, z]))
      rw [List.find?_cons_of_neg (by simpa using q), List.find?_cons_of_neg (by simpa using q2)]
      exact ih
theorem Rkv.any {k : List Int} : ∀ {kvs : List (List L2.Key × V)} {ds : List (List Int × β)}, Rkv rb F kvs ds → (kvs.any fun kv => decide (kv.1 = kI k)) = ds.any fun d => decide (d.1 = k)
  | [], [], .nil => rfl
  | kv :: kvs, d :: ds, .cons r t => by
    rw [List.any_cons, List.any_cons, Rkv.any t]
    congr 1
    refine decide_eq_decide.mpr ⟨fun z => kI_inj (by rw [← r.1, z]), fun z => by rw [r.1, z]⟩
theorem Rkv.put {k : List Int} {v : V} {x : β} (hv : rb.r F v x) {kvs : List (List L2.Key × V)} {ds : List (List Int × β)} (h : Rkv rb F kvs ds) : Rkv rb F (putK kvs (kI k) v) (dPut ds k x) := by
  unfold putK dPut
  rw [h.any]
  split
  · have key : ∀ {kvs : List (List L2.Key × V)} {ds : List (List Int × β)}, Rkv rb F kvs ds → Rkv rb F (kvs.map fun kv => if kv.1 = kI k then (kv.1, v) else kv) (ds.map fun d => if d.1 = k then (d.1, x) else d) := by
      intro kvs ds h
      induction h with
      | nil => exact .nil
      | @cons kv d kvs ds r t ih =>
        refine .cons ?_ ih
        by_cases q : d.1 = k
        · have q2 : kv.1 = kI k := by rw [r.1, q]
          simp only [if_pos q, if_pos q2]
          exact ⟨r.1, hv⟩
        · have q2 : ¬ kv.1 = kI k := fun z => q (kI_inj (by rw [← r.1, z]))
          simp only [if_neg q, if_neg q2]
          exact r
    exact key h
  · have key : ∀ {kvs : List (List L2.Key × V)} {ds : List (List Int × β)}, Rkv rb F kvs ds → Rkv rb F (kvs ++ [(kI k, v)]) (ds ++ [(k, x)]) := by
      intro kvs ds h
      induction h with
      | nil => exact .cons ⟨rfl, hv⟩ .nil
      | cons r t ih => exact .cons r ih
    exact key h
def rDic (rb : Rp β) : Rp (List (List Int × β)) := ⟨fun H v ds => ∃ a kvs, v = .ref a ∧ H a = some (.dT kvs) ∧ Rkv rb H kvs ds, fun e ⟨a, kvs, h1, h2, h3⟩ => ⟨a, kvs, h1, e _ _ h2, Rkv.up e h3⟩⟩
def cDic (rb : Rp β) (ds : List (List Int × β)) : Cp := ⟨fun F o => ∃ kvs, o = .dT kvs ∧ Rkv rb F kvs ds, fun e ⟨kvs, h1, h2⟩ => ⟨kvs, h1, Rkv.up e h2⟩, fun ⟨_, h, _⟩ => by subst h; trivial⟩
/-- a dict, frozen or a cell -/
def DR (rb : Rp β) (cs : Cs) (F : Hp) (v : V) (ds : List (List Int × β)) : Prop := (rDic rb).r F v ds ∨ ∃ p, v = .ref p ∧ (p, cDic rb ds) ∈ cs
theorem DR.up {cs : Cs} {v : V} {ds : List (List Int × β)} (h : DR rb cs F v ds) (e : Ex F F') : DR rb cs F' v ds := h.imp ((rDic rb).up e) fun q => q
theorem DR.see {c : Act} {cs : Cs} {H : Hp} {v : V} {ds : List (List Int × β)} (h : DR rb cs F v ds) (k : Cov c F cs H) : ∃ a kvs, v = .ref a ∧ H a = some (.dT kvs) ∧ Rkv rb F kvs ds := by
  rcases h with ⟨a, kvs, h1, h2, h3⟩ | ⟨p, h1, h2⟩
  · exact ⟨a, kvs, h1, k.ex _ _ h2, h3⟩
  · obtain ⟨_, _, o, h3, kvs, rfl, h4⟩ := k.cell _ h2
    exact ⟨p, kvs, h1, h3, h4⟩
def ED (rb : Rp β) (te : TE) (σ : L2.St) (F : Hp) (cs : Cs) (m : Option (List (List Int × β))) : Prop := ∀ d, m = some d → ∀ c F1 H, Ex F F1 → Cov c F1 cs H → ∀ Q : VK, (∀ v F2 H2, Ex F1 F2 → Cov c F2 cs H2 → DR rb cs F2 v d → Q v H2) → te σ H Q
end
section
variable {β : Type} {rb : Rp β} {σ : L2.St} {F H : Hp} {cs : Cs} {K : PySem.W.Frag} {td ty tv te : TE} {md : Option (List (List Int × β))} {mk : Option (List Int)} {c : Act} {D : Ends} {tz : TS}
theorem EM.ed (h : EM (rDic rb) td σ F cs md) : ED rb td σ F cs md := fun d q c F1 H e k Q hQ => h d q c F1 H e k Q fun v F2 H2 e2 k2 r2 => hQ v F2 H2 e2 k2 (.inl r2)
theorem ed_cell {i j : Nat} {p : Addr} {ds : List (List Int × β)} (h : σ[i]? = some (some (.ref p))) (hj : cs[j]? = some (p, cDic rb ds)) : ED rb (tVar i) σ F cs (some ds) := fun d q c F1 H e k Q hQ => by
  cases q
  exact ⟨_, h, hQ _ F1 H (Evl.Ex.refl _) k (.inr ⟨p, rfl, List.mem_of_getElem? hj⟩)⟩
theorem tup_key {v : V} {k : List Int} {c : Act} (kc : Cov c F cs H) (r : (rTup K rInt).r F v k) : ∃ b, v = .ref b ∧ H b = some (.tup ((kI k).map kV)) := by
  obtain ⟨b, vs, rfl, h1, h2⟩ := r
  refine ⟨b, rfl, ?_⟩
  have e : vs = k.map V.int := by
    clear h1
    induction h2 with
    | nil => rfl
    | cons r t ih => rw [List.map_cons, ← ih, r]
  rw [kI_kV, ← e]
  exact kc.ex _ _ h1
theorem em_din (hk : EM (rTup K rInt) ty σ F cs mk) (hd : ED rb td σ F cs md) : EM rBool (tDIn ty td) σ F cs (o2 dInG mk md) := fun d q c F1 H e k Q hQ => by
  obtain ⟨a, b, q1, q2, q3⟩ := o2_some q
  cases q3
  refine hk a q1 c F1 H e k _ fun v F2 H2 e2 k2 r2 => hd b q2 c F2 H2 (e.trans e2) k2 _ fun x F3 H3 e3 k3 r3 => ?_
  obtain ⟨p, kvs, rfl, h1, h2⟩ := r3.see k3
  obtain ⟨t, rfl, ht⟩ := tup_key k3 ((rTup K rInt).up e3 r2)
  refine ⟨p, _, rfl, DGet.t h1 ht, hQ _ F3 H3 (e2.trans e3) k3 ?_⟩
  show V.bl _ = V.bl _
  have g := h2.get (k := a)
  revert g
  cases dGet b a with
  | none => intro g; rw [show valV kvs (kI a) = none from g]; rfl
  | some x => rintro ⟨v, g, _⟩; rw [g]; rfl
theorem em_dnotin (hk : EM (rTup K rInt) ty σ F cs mk) (hd : ED rb td σ F cs md) : EM rBool (tDNotIn ty td) σ F cs (o2 dNotInG mk md) := fun d q c F1 H e k Q hQ => by
  obtain ⟨a, b, q1, q2, q3⟩ := o2_some q
  cases q3
  refine hk a q1 c F1 H e k _ fun v F2 H2 e2 k2 r2 => hd b q2 c F2 H2 (e.trans e2) k2 _ fun x F3 H3 e3 k3 r3 => ?_
  obtain ⟨p, kvs, rfl, h1, h2⟩ := r3.see k3
  obtain ⟨t, rfl, ht⟩ := tup_key k3 ((rTup K rInt).up e3 r2)
  refine ⟨p, _, rfl, DGet.t h1 ht, hQ _ F3 H3 (e2.trans e3) k3 ?_⟩
  show V.bl _ = V.bl _
  have g := h2.get (k := a)
  revert g
  cases dGet b a with
  | none => intro g; rw [show valV kvs (kI a) = none from g]; rfl
  | some x => rintro ⟨v, g, _⟩; rw [g]; rfl
theorem em_dget (hd : ED rb td σ F cs md) (hk : EM (rTup K rInt) ty σ F cs mk) : EM rb (tDGet td ty) σ F cs (o2 dGetG md mk) := fun d q c F1 H e k Q hQ => by
  obtain ⟨b, a, q1, q2, q3⟩ := o2_some q
  refine hd b q1 c F1 H e k _ fun x F2 H2 e2 k2 r2 => hk a q2 c F2 H2 (e.trans e2) k2 _ fun v F3 H3 e3 k3 r3 => ?_
  obtain ⟨p, kvs, rfl, h1, h2⟩ := (r2.up e3).see k3
  obtain ⟨t, rfl, ht⟩ := tup_key k3 r3
  have g := h2.get (k := a)
  rw [show dGet b a = some d from q3] at g
  obtain ⟨v, g1, g2⟩ := g
  exact ⟨p, v, rfl, by rw [← g1]; exact DGet.t h1 ht, hQ v F3 H3 (e2.trans e3) k3 g2⟩
theorem em_lenD (hd : ED rb td σ F cs md) : EM rInt (tCB rLenT (tCons td tNil)) σ F cs (md.map fun d => (d.length : Int)) := fun d q c F1 H e k Q hQ => by
  cases md with
  | none => cases q
  | some b =>
    cases q
    refine hd b rfl c F1 H e k _ fun x F2 H2 e2 k2 r2 => ?_
    obtain ⟨p, kvs, rfl, h1, h2⟩ := r2.see k2
    exact ⟨p, kvs, rfl, h1, hQ _ F2 H2 e2 k2 (by show V.int _ = V.int _; rw [h2.length])⟩
/-- d = {} -/
theorem a_newD {i : Nat} (k : Cov c F cs H) (n : ∀ p F2 H2, Ex F F2 → Cov c F2 (cs ++ [(p, cDic rb [])]) H2 → c.H0 p = none → D.nx (σ.set i (some (.ref p))) H2) : tAsg tDNewT (gName i) D σ H := fun p hp =>
  n p F _ (Evl.Ex.refl _) (k.own hp ⟨[], rfl, .nil⟩) (k.dom p hp)
theorem q_newD {i : Nat} (k : Cov c F cs H) (n : ∀ p F2 H2, Ex F F2 → Cov c F2 (cs ++ [(p, cDic rb [])]) H2 → c.H0 p = none → tz D (σ.set i (some (.ref p))) H2) : tSeq (tAsg tDNewT (gName i)) tz D σ H := a_newD (D := { D with nx := tz D }) k n
/-- d[k] = v -/
theorem a_dput {i j : Nat} {p : Addr} {ds ds' : List (List Int × β)} {mv : Option β} {x : β} {kk : List Int} (hx : σ[i]? = some (some (.ref p))) (hj : cs[j]? = some (p, cDic rb ds)) (hv : EM rb tv σ F cs mv) (hk : EM (rTup K rInt) ty σ F cs mk) (h1 : mv = some x) (h2 : mk = some kk) (h3 : dPutG ds kk x = some ds') (k : Cov c F cs H)
    (n : ∀ F2 H2, Ex F F2 → Cov c F2 (cs.set j (p, cDic rb ds')) H2 → D.nx σ H2) : sDPut (tVar i) ty tv D σ H := by
  refine hv x h1 c F H (Evl.Ex.refl _) k _ fun v F2 H2 e2 k2 r2 => ⟨_, hx, ?_⟩
  refine hk kk h2 c F2 H2 e2 k2 _ fun y F3 H3 e3 k3 r3 => ?_
  obtain ⟨_, _, o, g3, kvs, rfl, g4⟩ := k3.at_ j hj
  obtain ⟨t, rfl, ht⟩ := tup_key k3 r3
  unfold dPutG at h3
  split at h3
  · rename_i hz
    cases h3
    exact ⟨p, _, rfl, DPut.t g3 ht (sz_lt (by rw [g4.length]; omega)), n F3 _ (e2.trans e3) (k3.set j hj ⟨_, rfl, g4.put (rb.up e3 r2)⟩)⟩
  · cases h3
theorem q_dput {i j : Nat} {p : Addr} {ds ds' : List (List Int × β)} {mv : Option β} {x : β} {kk : List Int} (hx : σ[i]? = some (some (.ref p))) (hj : cs[j]? = some (p, cDic rb ds)) (hv : EM rb tv σ F cs mv) (hk : EM (rTup K rInt) ty σ F cs mk) (h1 : mv = some x) (h2 : mk = some kk) (h3 : dPutG ds kk x = some ds') (k : Cov c F cs H)
    (n : ∀ F2 H2, Ex F F2 → Cov c F2 (cs.set j (p, cDic rb ds')) H2 → tz D σ H2) : tSeq (sDPut (tVar i) ty tv) tz D σ H := a_dput (D := { D with nx := tz D }) hx hj hv hk h1 h2 h3 k n
theorem Cov.frzD {p : Addr} {ds : List (List Int × β)} (k : Cov c F cs H) (j : Nat) (hj : cs[j]? = some (p, cDic rb ds)) (hn : c.H0 p = none) : ∃ F2, Ex F F2 ∧ Cov c F2 (cs.eraseIdx j) H ∧ (rDic rb).r F2 (.ref p) ds := by
  obtain ⟨f1, _, o, f3, kvs, rfl, f4⟩ := k.at_ j hj
  exact ⟨_, Ex.new f1, k.frzAt j hj f3 hn, p, kvs, rfl, upd_same, Rkv.up (Ex.new f1) f4⟩
theorem un1 {k : Nat} {A : Around} (r : Room k A) : A.units + 1 < cLine := by have := r.un; omega
/-! sorted -/
def decI (F : Hp) (x : V) : List Int := match x with
  | .ref t => match F t with
    | some (.tup us) => us.map fun v => match v with
      | .int i => i
      | _ => 0
    | _ => []
  | _ => []
theorem decI_ok {v : V} {k : List Int} (r : (rTup K rInt).r F v k) : decI F v = k ∧ ∃ t, v = .ref t ∧ F t = some (.tup (k.map V.int)) := by
  obtain ⟨b, vs, rfl, h1, h2⟩ := r
  have e : vs = k.map V.int := by
    clear h1
    induction h2 with
    | nil => rfl
    | cons r t ih => rw [List.map_cons, ← ih, r]
  subst e
  refine ⟨?_, b, rfl, h1⟩
  unfold decI
  simp only [h1, List.map_map]
  exact List.map_id'' (fun _ => rfl) k
def sortG (l : List (List Int)) : Option (List (List Int)) := if (l.all fun k => !k.isEmpty) = true ∧ l.length ≤ 16000000 then some (srtT l) else none
theorem decs {vs : List V} {ds : List (List Int)} (r : Rs (rTup K rInt) F vs ds) : vs.map (decI F) = ds := by
  induction r with
  | nil => rfl
  | cons r t ih => rw [List.map_cons, ih, (decI_ok r).1]
theorem rs_mem {α : Type} {ra : Rp α} {F : Hp} : ∀ {vs : List V} {ds : List α}, Rs ra F vs ds → ∀ {x : V}, x ∈ vs → ∃ d, d ∈ ds ∧ ra.r F x d
  | _ :: _, _ :: _, .cons r t, x, hx => by
    rcases List.mem_cons.mp hx with rfl | hx
    · exact ⟨_, by simp, r⟩
    · obtain ⟨d, h3, h4⟩ := rs_mem t hx
      exact ⟨d, List.mem_cons_of_mem _ h3, h4⟩
theorem ef_sortT {ta : TE} {m : Option (List (List Int))} (h : EL K (rTup K rInt) ta σ F cs m) : EF (rTup K rInt) (tCB (rSortedTI K) (tCons ta tNil)) σ F cs (o1 sortG m) := fun d q c F1 H e k Q hQ => by
  obtain ⟨l, q1, q2⟩ := o1_some q
  unfold sortG at q2
  split at q2
  · rename_i hz
    cases q2
    refine h l q1 c F1 H e k _ fun v F2 H2 e2 k2 r2 => ?_
    obtain ⟨a, vs, rfl, h1, h2⟩ := r2.see k2
    have hm := decs h2
    have mem : ∀ x ∈ vs, ∃ d, d ∈ l ∧ (rTup K rInt).r F2 x d := fun x hx => rs_mem h2 hx
    refine ⟨a, vs, decI F2, rfl, h1, fun x hx => ?_, fun ys p hs hb hp => ?_⟩
    · obtain ⟨d, hd, hr⟩ := mem x hx
      obtain ⟨g1, t, g2, g3⟩ := decI_ok hr
      refine ⟨?_, t, g2, by rw [g1]; exact k2.ex _ _ g3⟩
      have := List.all_eq_true.mp hz.1 d hd
      rw [g1]
      intro z
      rw [z] at this
      cases this
    · have e1 : ys.map (decI F2) = srtT l := by
        refine srtd_uniq (List.pairwise_map.mpr hs) (srtT_srtd l) ?_
        have := hb.perm.map (decI F2)
        rw [hm] at this
        exact this.trans (srtT_perm l).symm
      have e2' : Rs (rTup K rInt) F2 ys (srtT l) := by
        rw [← e1]
        have : ∀ y ∈ ys, (rTup K rInt).r F2 y (decI F2 y) := fun y hy => by
          obtain ⟨d, _, hr⟩ := mem y (hb.perm.mem_iff.mp hy)
          rw [(decI_ok hr).1]
          exact hr
        clear e1 hs hb
        induction ys with
        | nil => exact .nil
        | cons y ys ih => exact .cons (this y (by simp)) (ih fun z hz => this z (List.mem_cons_of_mem _ hz))
      exact hQ p F2 _ e2 (k2.own hp ⟨_, rfl, e2'⟩) (k2.dom p hp)
  · cases q2
end
end Mw

set_option maxHeartbeats 2000000
/-! the operators of an own class: x in obj, len(obj) -/
namespace Mw
open PySem L2 PySem.Spec PyProof.Rows PySem.W
section
variable {X : Cx} {CX : CXT} {k : Nat} {C g a dx : Addr} {fs : List (Str × V)} {fd : FuncData} {ps : List Str} {sp : Sp} {dvs : List V} {ds : List Value} {E : XK}
/-- the class (or one above it) has the name as a def at g -/
structure DefOf (K : PySem.W.Frag) (C : Addr) (f : Str) (g : Addr) : Prop where
  at_ : PySem.W.findIn K (.ref C) f = some (some (.ref g))
  fn : PySem.W.isFn K (.ref g) = true
def BlQ (Q : VK) : VK := fun v H => ∃ b, v = .bl b ∧ Q (.bl b) H
theorem contains_own {M : Model} {A : Around} {E' : Value → Shared → Prop} {s : Shared} {K : PySem.W.Frag} {x f : Addr} {ox : Obj} {od : Option Obj} {v : Value} {Q : Bool → Shared → Prop} (Xk : K.In s.heap) (I : InstAt s.heap x ox C od) (hs : findIn K (.ref C) "__contains__" = some (some (.ref f))) (hf : isFn K (.ref f) = true)
    (h : wpAny M A (call (.ref f) [.ref x, v]) (fun r s' => wpAny M A (truthy r) Q E' s') E' s) : wpAny M A (contains (.ref x) v) Q E' s := by
  unfold contains
  refine wpAny_holding (wpAny_bind (wpAny_bind (I.type.here ((looks_findIn Xk hs).here ?_))))
  rw [if_neg (by simp)]
  exact wpAny_bind (unlessNone_K Xk I hs hf h)
def rInO (C : Addr) (sp : Sp) (dvs : List V) (E : XK) : R2 := fun x y H Q => ∃ a dx fs, y = V.ref a ∧ H a = some (.ins C dx fs) ∧ sp (.ref a :: x :: dvs) H (BlQ Q) E
def rNotInO (C : Addr) (sp : Sp) (dvs : List V) (E : XK) : R2 := fun x y H Q => ∃ a dx fs, y = V.ref a ∧ H a = some (.ins C dx fs) ∧ sp (.ref a :: x :: dvs) H (BlQ fun v H' => ∃ b, v = .bl b ∧ Q (.bl (!b)) H') E
theorem op_inO (dn : DefOf X.K C "__contains__" g) (F : FnOk X.prog X.w X.K X.mg X.base CX k g fd ps sp) (hr : Room k X.A) (hb : Binds X.K fd ps ds) (hd : Vals dvs ds) (hx : Passes CX X E) : OpR X (compareOp .In) (rInO C sp dvs E) := by
  intro pins s σ H x y v u Q I rx ry h
  obtain ⟨a, dx, fs, rfl, ea, h⟩ := h
  obtain rfl : u = Value.ref a := ry
  obtain ⟨mA, O, _, _, _, _⟩ := ins_get I.hok ea
  obtain ⟨od, J, _⟩ := O.look
  refine wpAny_bind (contains_own I.kIn J dn.at_ dn.fn (wpAny_mono (run_fn F hr hb hd hx I (.cons (show RelV (V.ref a) (Value.ref a) from rfl) (.cons rx .nil)) h) (fun r s' hq => ?_) fun _ _ z => z))
  obtain ⟨v', H', I', rv, b, rfl, q⟩ := hq
  obtain rfl : r = Value.bool b := rv
  exact wpAny_pure (wpAny_pure ⟨V.bl b, H', I', rfl, q⟩)
theorem op_notInO (dn : DefOf X.K C "__contains__" g) (F : FnOk X.prog X.w X.K X.mg X.base CX k g fd ps sp) (hr : Room k X.A) (hb : Binds X.K fd ps ds) (hd : Vals dvs ds) (hx : Passes CX X E) : OpR X (compareOp .NotIn) (rNotInO C sp dvs E) := by
  intro pins s σ H x y v u Q I rx ry h
  obtain ⟨a, dx, fs, rfl, ea, h⟩ := h
  obtain rfl : u = Value.ref a := ry
  obtain ⟨mA, O, _, _, _, _⟩ := ins_get I.hok ea
  obtain ⟨od, J, _⟩ := O.look
  refine wpAny_bind (contains_own I.kIn J dn.at_ dn.fn (wpAny_mono (run_fn F hr hb hd hx I (.cons (show RelV (V.ref a) (Value.ref a) from rfl) (.cons rx .nil)) h) (fun r s' hq => ?_) fun _ _ z => z))
  obtain ⟨v', H', I', rv, b, rfl, b2, e, q⟩ := hq
  obtain rfl : r = Value.bool b := rv
  cases e
  exact wpAny_pure (wpAny_pure ⟨V.bl (!b), H', I', rfl, q⟩)
def LnQ (Q : VK) : VK := fun v H => ∃ n : Int, v = .int n ∧ 0 ≤ n ∧ n < 2 ^ 62 ∧ Q (.int n) H
def rLenO (C : Addr) (sp : Sp) (dvs : List V) (E : XK) : List V → Hp → VK → Prop := fun vs H Q => ∃ a dx fs, vs = [V.ref a] ∧ H a = some (.ins C dx fs) ∧ sp (.ref a :: dvs) H (LnQ Q) E
theorem cr_lenO (dn : DefOf X.K C "__len__" g) (F : FnOk X.prog X.w X.K X.mg X.base CX k g fd ps sp) (hr : Room (k + 1) X.A) (hb : Binds X.K fd ps ds) (hd : Vals dvs ds) (hx : Passes CX X E) : CallR X (.builtin "len") (rLenO C sp dvs E) := by
  intro pins s σ H vs us Q I r h
  obtain ⟨a, dx, fs, rfl, ea, h⟩ := h
  cases r with
  | cons r0 rt =>
    cases rt
    rename_i u
    obtain rfl : u = Value.ref a := r0
    obtain ⟨mA, O, _, _, _, _⟩ := ins_get I.hok ea
    obtain ⟨od, J, _⟩ := O.look
    obtain ⟨m, Fm⟩ := I.fr
    have hl : ([Value.ref a] ++ ds).length = ps.length := by
      rw [← F.len _ _ _ _ h]
      show ds.length + 1 = dvs.length + 1
      rw [hd.length]
    refine len_K Fm I.ok.mod.kin J dn.at_ dn.fn (wpAny_call (codeAny_mono (F.run X.A.in1 X.stack s H ⟨[.ref a], []⟩ (.ref a :: ds) (.ref a :: dvs) (LnQ Q) E hr.in1 I.env0.in1 (hb s [.ref a] I.kIn hl) (.cons rfl hd) h) fun r s' hq => ?_))
    cases r with
    | error e => exact hx pins σ H s e s' I hq
    | ok fl =>
      cases fl with
      | ret u =>
        obtain ⟨v, H', I3, rv, n, rfl, h0, h1, q⟩ := I.after hq
        obtain ⟨t, rfl⟩ := rv
        exact ⟨⟨h0, by omega⟩, V.int n, H', I3.tok _, ⟨_, rfl⟩, q⟩
      | next => exact False.elim hq
      | brk => exact False.elim hq
      | cont => exact False.elim hq
end
section
variable {ω α : Type} {ro : Rp ω} {ra : Rp α} {C : Addr} {E : XK}
theorem vo_inO {g : ω → α → Option Bool} (ho : ObjP C ro) : VO (rInO C (Psp2 ro ra rBool g) [] E) ra ro rBool (fun x o => g o x) := fun c F cs H x y a b d k r1 r2 q Q hQ => by
  obtain ⟨p, dx, fs, rfl, g1⟩ := ho _ _ _ r2
  refine ⟨p, dx, fs, rfl, k.ex _ _ g1, ?_⟩
  exact ⟨F, .ref p, x, b, a, d, rfl, k.ex, r2, r1, q, fun v F9 H9 k9 r9 => ⟨d, r9, r9 ▸ hQ v F9 H9 k9.fz (k.call0 k9) r9⟩⟩
theorem vo_notInO {g : ω → α → Option Bool} (ho : ObjP C ro) : VO (rNotInO C (Psp2 ro ra rBool g) [] E) ra ro rBool (fun x o => (g o x).map fun b => !b) := fun c F cs H x y a b d k r1 r2 q Q hQ => by
  obtain ⟨p, dx, fs, rfl, g1⟩ := ho _ _ _ r2
  obtain ⟨e, q1, rfl⟩ := Option.map_eq_some_iff.mp q
  refine ⟨p, dx, fs, rfl, k.ex _ _ g1, ?_⟩
  exact ⟨F, .ref p, x, b, a, e, rfl, k.ex, r2, r1, q1, fun v F9 H9 k9 r9 => ⟨e, r9, e, rfl, hQ _ F9 H9 k9.fz (k.call0 k9) rfl⟩⟩
/-- len() of an own object: its def must give a fitting number -/
def lenO (g : ω → Option Int) (o : ω) : Option Int := (g o).bind fun n => if 0 ≤ n ∧ n < 2 ^ 62 then some n else none
theorem vc_lenO {g : ω → Option Int} (ho : ObjP C ro) : VC (rLenO C (Psp1 ro rInt g) [] E) ro rInt (lenO g) := fun c F cs H x a d k r1 q Q hQ => by
  obtain ⟨p, dx, fs, rfl, g1⟩ := ho _ _ _ r1
  obtain ⟨n, q1, q2⟩ := Option.bind_eq_some_iff.mp q
  split at q2
  · rename_i hn
    cases q2
    refine ⟨p, dx, fs, rfl, k.ex _ _ g1, ?_⟩
    exact ⟨F, .ref p, a, d, rfl, k.ex, r1, q1, fun v F9 H9 k9 r9 => ⟨d, r9, hn.1, hn.2, hQ _ F9 H9 k9.fz (k.call0 k9) rfl⟩⟩
  · cases q2
end
end Mw
namespace Mw
open PySem PySem.Spec PyProof.Rows L2
/-- an own operator's def, ready to be called -/
structure CalO (P : Program) (w : World) (K : PySem.W.Frag) (mg : Str → Option Value) (base : Heap) (k : Nat) (C : Addr) (m : Str) (ps : List Str) (sp : Sp) (X : FuncData → Prop) : Prop where
  ex : ∃ f fd, FnOk P w K mg base CX0 k f fd ps sp ∧ DefOf K C m f ∧ Binds K fd ps [] ∧ X fd
end Mw
namespace Hm
open PySem PySem.Spec PyProof.Rows L2 He Mw
def defB (x f : Str) : Fc := fun K => eqO (PySem.W.findIn K (.ref (ga K x)) f) (some (some (.ref (ma K (ga K x) f)))) && PySem.W.isFn K (.ref (ma K (ga K x) f))
theorem defO_ok {K : PySem.W.Frag} {x f : Str} (c : defB x f K = true) : DefOf K (ga K x) f (ma K (ga K x) f) := by
  obtain ⟨c1, c2⟩ := ba c
  exact ⟨eqO_ok c1, c2⟩
end Hm

set_option maxHeartbeats 2000000
/-! Exceptions: one that was caught stays tracked; raise, try. -/
namespace L2
open PySem PySem.Spec PyProof.Rows
/-- an exception that was caught: its class, its dict -/
def exT (a : Addr) (cls : Value) (d : Option Addr) : HO := .ext fun h => ∃ (oe : Obj) (vs : Array Value), h.get? a = some oe ∧ Zc cls d oe ∧ oe.data = .fields vs
theorem exT_ok {P : Program} {w : World} {H : Hp} {h : Heap} {a : Addr} {cls : Value} {d : Option Addr} {oe : Obj} {vs : Array Value} (e : h.get? a = some oe) (z : Zc cls d oe) (dd : oe.data = .fields vs) : ObjOk P w H h a (exT a cls d) :=
  ⟨⟨oe, vs, e, z, dd⟩, ⟨oe, e⟩, fun _ _ ⟨o, v, q, r⟩ k => ⟨o, v, k o q, r⟩⟩
theorem exT_at {P : Program} {w : World} {H : Hp} {h : Heap} {a : Addr} {cls : Value} {d : Option Addr} (hok : HOk P w H h) (e : H a = some (exT a cls d)) : ∃ (oe : Obj) (vs : Array Value), h.get? a = some oe ∧ Zc cls d oe ∧ oe.data = .fields vs := by
  have x : ObjOk P w H h a (.ext fun h => ∃ (oe : Obj) (vs : Array Value), h.get? a = some oe ∧ Zc cls d oe ∧ oe.data = .fields vs) := hok a _ e
  exact x.1
section
variable {X : Cx} {pins : List (Addr × Obj)} {σ : St} {H : Hp} {s : Shared}
/-- a record that stands in the heap since the entry is tracked from here on -/
theorem Inv.track {a : Addr} {oe : Obj} {vs : Array Value} {cls : Value} {d : Option Addr} (I : Inv X pins σ H s) (h0 : X.s_0.heap.get? a = none) (hp : ∀ p ∈ X.pn ++ pins, p.1 ≠ a) (ha : s.heap.get? a = some oe) (z : Zc cls d oe) (hd : oe.data = .fields vs)
    (na : H a = none) (nL : a ≠ X.env.locals) : Inv X pins σ (upd H a (exT a cls d)) s := by
  have ne0 : ∀ b o, X.s_0.heap.get? b = some o → b ≠ a := fun b o e q => by rw [q, h0] at e; cases e
  have neH : ∀ {b u}, H b = some u → b ≠ a := fun {b u} e => ne_of_none e na
  refine ⟨I.ok, I.os, I.bare, ⟨fun b o e n hb hx => I.base.keep b o e n hb hx, fun b o e n hb hx => I.base.slot b o e n hb hx, fun b o e n hx => ?_, fun b o e hx => I.base.there b o e hx, fun b xs e => ?_, fun b o u e => ?_, fun b ps e => ?_⟩, I.loc, I.cell, ?_, fun x c e => ?_, fun p q => ?_, fun b u e => ?_, I.len⟩
  · rw [upd_ne (ne0 b o e)]; exact I.base.free b o e n hx
  · have q := I.base.tups b xs e
    rw [upd_ne (neH q)]; exact q
  · have q := I.base.frzs b o u e
    rw [upd_ne (neH q)]; exact q
  · obtain ⟨m, q⟩ := I.base.tbls b ps e
    exact ⟨m, by rw [upd_ne (neH q)]; exact q⟩
  · rw [upd_ne (Ne.symm nL)]; exact I.free
  · have nc : c ≠ a := fun q => by
      obtain ⟨v, o, ho, hc⟩ := I.cell x c e
      rw [q, ha] at ho
      cases ho
      rw [hd] at hc
      cases hc
    rw [upd_ne nc]; exact I.freeC x c e
  · obtain ⟨e, n, ne, nf, dd⟩ := I.pin p q
    exact ⟨e, by rw [upd_ne (hp p q)]; exact n, ne, nf, dd⟩
  · by_cases hb : b = a
    · subst hb
      rw [upd_same] at e
      cases e
      exact exT_ok ha z hd
    · rw [upd_ne hb] at e
      exact (I.hok b u e).stay (fun _ _ _ q => q) (fun c q => by rw [upd_ne (neH q)]; exact q) fun c xs q => by rw [upd_ne (neH q)]; exact q
/-- the context of an except suite whose exception is tracked -/
abbrev Cx.suT (X : Cx) (a : Addr) (pn : List (Addr × Obj)) : Cx := { X with A := X.A.mark (some (.ref a)), calm := false, pn := pn, xe := fun _ _ => False }
theorem Inv.suT (I : Inv X pins σ H s) (a : Addr) : Inv (X.suT a (X.pn ++ pins)) [] σ H s :=
  ⟨I.ok.suite _ _, I.os, I.bare, I.base, I.loc, I.cell, I.free, I.freeC, fun p hp => I.pin p (by rw [List.append_nil] at hp; exact hp), I.hok, I.len⟩
theorem Inv.unsuT {a : Addr} {pn' : List (Addr × Obj)} (I : Inv (X.suT a (X.pn ++ pins)) pn' σ H s) (ok : X.Ok) : Inv X pins σ H s :=
  ⟨ok, I.os, I.bare, I.base, I.loc, I.cell, I.free, I.freeC, fun p hp => I.pin p (List.mem_append_left _ hp), I.hok, I.len⟩
end
/-- what the clause 'except x as n' wishes of an exception of the body (n's slot is i), the exception tracked -/
def wAsT (K : PySem.W.Frag) (c : Value) (i : Nat) (ts : TS) (Wout : WX) (D : Ends) : WX := fun cls d σ H =>
  ∃ b, PySem.W.exmOne K cls c = some b ∧ (b = true → ∀ a, H a = none → ts { nx := fun σ' H' => D.nx (σ'.set i none) H', rt := D.rt, bk := fun σ' H' => D.bk (σ'.set i none) H', ct := fun σ' H' => D.ct (σ'.set i none) H' } (σ.set i (some (.ref a))) (upd H a (exT a cls d))) ∧
    (b = false → Wout cls d σ H)
section
variable {X : Cx} {x n : Str} {c : Value} {i : Nat} {body suite : List Stmt} {b₀ : Stmt} {np pos pos' : Pos} {tb : WX → TS} {ts : TS} {Wout : WX}
theorem ps_try_T (hs : X.stack = X.env :: X.outer) (hf : X.env.frame = some X.env.locals) (hex : X.ex = []) (hN : X.N.Nodup) (hi : X.N[i]? = some n) (hln : X.env.kindOf n = some .local) (hc : Names X x c) (tk : Takes X Wout)
    (hb : ∀ (W : WX) (pn : List (Addr × Obj)) (xe : Value → Shared → Prop), Takes (X.tr pn xe) W → PassesOwn (model X.prog X.w) X.A X.env xe → PSs (X.tr pn xe) body (tb W))
    (hsu : ∀ (a : Addr) (pn : List (Addr × Obj)), PSs (X.suT a pn) (b₀ :: suite) ts) :
    PS X (.Try body [.ExceptHandler (some (.Name x np)) (some n) (b₀ :: suite) pos'] [] [] pos) (fun D σ H => tb (wAsT X.K c i ts Wout D) D σ H) := by
  refine ⟨fun pins s σ H D I h => ?_⟩
  have ok := I.ok
  have hfr : X.A.frames = some (X.env :: X.outer) := by rw [ok.frames, hs]
  have hloc : Loc X.env.scope n := .inl hln
  refine wpAny_Try_except ?_
  refine wpAny_mono ((hb (wAsT X.K c i ts Wout D) (X.pn ++ pins) (fun e s₁ => wpAny (model X.prog X.w) X.A (noteFrame e X.env) (fun _ s₂ => wpAny (model X.prog X.w) X.A (setFlight e none) (fun _ s₃ =>
    wpAny (model X.prog X.w) X.A (handleBy e X.env [.ExceptHandler (some (.Name x np)) (some n) (b₀ :: suite) pos']) (SP X pins D) X.xe s₃) X.xe s₂) X.xe s₁) (fun u s' xx => ?_) PassesOwn.looking).run [] s σ H D (I.toTry _) h) (fun f s1 hsp => ?_) (fun e s1 he => he)
  · -- the catch
    obtain ⟨a, B, sI, pins', σ', H', cls, d, rfl, J', nb, up, sky, na, os, ag, b, hb1, hyes, hno⟩ := xx
    have J : Inv X pins σ' H' sI := J'.ofTry ok
    have sky' : Sky B (X.env :: X.outer) a (Zc cls d) X.env.locals s'.heap := by rw [← hs]; exact sky
    show wpAny (model X.prog X.w) X.A (noteFrame (.ref a) X.env) _ _ _
    refine Sky.land Zc.steady hfr hf sky' fun h3 fl3 up3 => ?_
    have J3 : Inv X pins σ' H' { s' with heap := h3 } := J.landed nb fl3.1 (up.trans up3) os ag
    obtain ⟨oe3, vs3, he3, hz3, hd3⟩ := fl3.there
    have notFr : ∀ {h : Heap} {o : Obj} {vs : Array Value}, h.FunFrames B (X.env :: X.outer) → h.get? a = some o → o.data = .fields vs → a ∉ frs (X.env :: X.outer) := fun {h o vs} ff e dd hm => by
      obtain ⟨_, o', e', hnf⟩ := ff.mem hm
      rw [e] at e'; cases e'
      exact hnf _ dd
    have nfr := notFr fl3.2.2.1 he3 hd3
    have nL : a ≠ X.env.locals := fun z => nfr (List.mem_filterMap.mpr ⟨X.env, List.mem_cons_self, by rw [hf, z]⟩)
    have nF : a ∉ X.fs := fun hm => by
      obtain ⟨e, he, q⟩ := List.mem_filterMap.mp hm
      exact nfr (List.mem_filterMap.mpr ⟨e, List.mem_cons_of_mem _ he, q⟩)
    have aI : sI.heap.get? a = none := by
      cases q : sI.heap.get? a with
      | none => rfl
      | some o =>
        have z := nb a o q (by rw [hs]; exact nfr)
        rw [fl3.2.1] at z
        cases z
    have a0 : X.s_0.heap.get? a = none := by
      cases q : X.s_0.heap.get? a with
      | none => rfl
      | some o =>
        obtain ⟨o', z⟩ := J.base.there a o q (by rw [hex]; exact List.not_mem_nil)
        rw [aI] at z
        cases z
    have ap : ∀ p ∈ X.pn ++ pins, p.1 ≠ a := fun p hp q => by
      obtain ⟨z, _⟩ := J.pin p hp
      rw [q, aI] at z
      cases z
    have S3 := J3.suite he3 hd3 na nL nF
    refine wpAny_handleBy_cons (codeAny_handlers_test ?_) (by intro q; cases q)
    have LT : PySem.W.Looks (model X.prog X.w) h3 (typeOf (.ref a)) cls := fun A Q E s k q => wpAny_typeOf_ref (k _ _ he3) (by rw [hz3.1]; exact q)
    have LM := PySem.W.exm_one (M := model X.prog X.w) (J3.kIn) LT hb1
    have test : ∀ {Q : Value → Shared → Prop} {E : Value → Shared → Prop}, Q c { s' with heap := h3 } → wpAny (model X.prog X.w) (X.A.mark (some (.ref a))) (eval (.Name x np) X.env) Q E { s' with heap := h3 } := fun {Q E} q => by
      obtain ⟨hg, hdbg, hm | ⟨hm, hv, hnn⟩⟩ := hc
      · exact ld_glob (X := X.suite a ((a, oe3) :: (X.pn ++ pins))) S3 hg hm q hdbg
      · exact ld_blt (X := X.suite a ((a, oe3) :: (X.pn ++ pins))) S3 hg hm hv q hnn hdbg
    refine test (LM.here ?_)
    cases b with
    | true =>
      refine codeAny_handlers_suite_as ?_
      refine HandSPX.lands_againZ fl3 fun h4 fl4 up4 => ?_
      have J4 : Inv X pins σ' H' { s' with heap := h4 } := J.landed nb fl4.1 ((up.trans up3).trans up4) os ag
      obtain ⟨oe4, vs4, he4, hz4, hd4⟩ := fl4.there
      have S4 := (J4.track a0 ap he4 hz4 hd4 na nL).suT a
      refine store_ok (X := X.suT a (X.pn ++ pins)) (v := .ref a) S4 hN hi hloc rfl (fun s5 S5 => ?_) (.inr hln)
      refine wpAny_mono ((hsu a (X.pn ++ pins)).run [] s5 _ _ _ S5 (hyes rfl a na)) (fun f s6 hsp => ?_) (fun _ _ z => False.elim z)
      have end_ : ∀ {σ6 : St} {H6 : Hp} {Q : Shared → Prop}, Inv (X.suT a (X.pn ++ pins)) [] σ6 H6 s6 → (∀ s7, Inv X pins (σ6.set i none) H6 s7 → Q s7) →
          wpAny (model X.prog X.w) X.A (do bindName X.env n .none; unbindBehindTheSuite X.env n pos') (fun _ s7 => Q s7) X.xe s6 := fun {σ6 H6 Q} S6 hq => gone_ok (S6.unsuT ok) hN hi hln hq
      cases f with
      | next =>
        obtain ⟨σ6, H6, S6, q6⟩ := hsp
        exact end_ S6 fun s7 J7 => ⟨_, _, J7, q6⟩
      | brk =>
        obtain ⟨σ6, H6, S6, q6⟩ := hsp
        exact end_ S6 fun s7 J7 => ⟨_, _, J7, q6⟩
      | cont =>
        obtain ⟨σ6, H6, S6, q6⟩ := hsp
        exact end_ S6 fun s7 J7 => ⟨_, _, J7, q6⟩
      | ret u =>
        obtain ⟨v6, σ6, H6, S6, r6, q6⟩ := hsp
        exact end_ S6 fun s7 J7 => ⟨_, _, _, J7, r6, q6⟩
    | false =>
      show wpAny _ X.A (handleBy (.ref a) X.env []) _ _ _
      refine wpAny_handleBy_nil ?_
      obtain ⟨k1, k2, k3, oe, vs, T, oT, ts', he, hz, hd, h1, hr⟩ := id fl3
      unfold PySem.passOn
      refine wpAny_bind (wpAny_field he hd h1 ?_)
      rw [if_neg (show ¬ ((Value.ref T == Value.none) = true) from by simp)]
      have fin : wpAny (model X.prog X.w) X.A (setFlight (.ref a) X.env.frame) (fun _ s4 => wpAny (model X.prog X.w) X.A (throw (.ref a) : Sem Flow) (SP X pins D) X.xe s4) X.xe { s' with heap := h3 } := by
        rw [hf]
        refine HandSPX.setFlight_upZ fl3 fun h4 hh4 up4 => wpAny_throw (tk _ _ ?_)
        exact ⟨a, B, sI, pins, σ', H', cls, d, rfl, J, nb, (up.trans up3).trans up4, .inr (.inr (by rw [hs]; exact hh4)), na, os, ag, hno rfl⟩
      first
        | exact wpAny_bind (wpAny_pure (wpAny_bind fin))
        | exact wpAny_bind fin
  · cases f with
    | next =>
      obtain ⟨σ', H', J', q⟩ := hsp
      exact wpAny_execs_nil ⟨σ', H', J'.ofTry ok, q⟩
    | brk =>
      obtain ⟨σ', H', J', q⟩ := hsp
      exact ⟨σ', H', J'.ofTry ok, q⟩
    | cont =>
      obtain ⟨σ', H', J', q⟩ := hsp
      exact ⟨σ', H', J'.ofTry ok, q⟩
    | ret u =>
      obtain ⟨v, σ', H', J', r, q⟩ := hsp
      exact ⟨v, σ', H', J'.ofTry ok, r, q⟩
end
/-! ### the caught one: its value, its kind -/
section
variable {X : Cx}
/-- e.f, e caught -/
def tXfT (K : PySem.W.Frag) (f : Str) (te : TE) : TE := fun σ H Q => te σ H fun x H1 => ∃ (a C dd : Addr) (fs : List (Str × V)) (v : V), x = .ref a ∧ H1 a = some (exT a (.ref C) (some dd)) ∧ XfC K C ∧ PySem.W.findIn K (.ref C) f = some none ∧ H1 dd = some (.xd fs) ∧ fs.lookup f = some v ∧ Q v H1
theorem pe_xfT {e : Expr} {te : TE} {pos : Pos} {n : Str} (K : PySem.W.Frag) (hK : X.K = K) (he : PE X e te) (hb : attributeBase e n X.env (eval e X.env) = eval e X.env := by rfl) : PE X (.Attribute e n pos) (tXfT K n te) := by
  subst hK
  refine ⟨fun pins s σ H Q I h => ?_⟩
  refine attr_of hb (thn (he.run pins s σ H _ I h) fun u s1 hh => ?_)
  obtain ⟨x, H1, I1, rx, a, C, dd, fs, v, ex, ht, T, hno, ea, l, q⟩ := hh
  subst ex
  obtain rfl : u = Value.ref a := rx
  obtain ⟨oe, vs, ha, hz, hd⟩ := exT_at I1.hok ht
  have hx : ObjOk X.prog X.w H1 s1.heap dd (.xd fs) := I1.hok dd _ ea
  obtain ⟨mA, hns, hr⟩ := hx
  obtain ⟨od, ho, hl⟩ := lookIn_ns hns
  obtain ⟨u, hu, ru⟩ := RelO.some_of (v := v) (o := mA n) (by rw [← l]; exact hr n)
  have J : PySem.W.InstAt s1.heap a oe C (some od) := ⟨ha, hz.1, by unfold PySem.W.notCls; rw [hd] <;> rfl, by rw [hz.2]; exact ho⟩
  exact HandSPX.exc_get I1.kIn J T.ga T.gg T.exC (PySem.W.findObj_own T.hdC hno rfl (by rw [hl, hu])) (handed_of ru) ⟨v, H1, I1.tok _, ru, q⟩
end
end L2
/-! ### isinstance of a caught one -/
namespace L2
open PySem PySem.Spec PyProof.Rows
structure KitC (K : PySem.W.Frag) (C : Addr) : Prop where
  hc : (PySem.W.clsIn K C).isSome = true
  hg : PySem.W.findIn K (.ref C) "__getattribute__" = some (some (.builtin "BaseException.__getattribute__"))
  hk : PySem.W.findIn K (.ref C) "__getattr__" = some none
  hs : PySem.W.subIn K (.ref C) (.type "BaseException") = some true
  ha : PySem.W.findIn K (.ref C) "__class__" = some (some (.builtin "object.__class__"))
  hn : PySem.W.specialIn K (.builtin "object.__class__") "__get__" = some (some (.builtin "getset_descriptor.__get__"))
  ht : PySem.W.takesIn K (.builtin "object.__class__") = some true
  hm : PySem.W.mroIn K C (.type "object") = some true
def kitEB (K : PySem.W.Frag) (C : Addr) : Bool := (PySem.W.clsIn K C).isSome && (decide (PySem.W.findIn K (.ref C) "__getattribute__" = some (some (.builtin "BaseException.__getattribute__"))) && (decide (PySem.W.findIn K (.ref C) "__getattr__" = some none) && (decide (PySem.W.subIn K (.ref C) (.type "BaseException") = some true) &&
  (decide (PySem.W.findIn K (.ref C) "__class__" = some (some (.builtin "object.__class__"))) && (decide (PySem.W.specialIn K (.builtin "object.__class__") "__get__" = some (some (.builtin "getset_descriptor.__get__"))) && (decide (PySem.W.takesIn K (.builtin "object.__class__") = some true) && decide (PySem.W.mroIn K C (.type "object") = some true)))))))
theorem kitEB_ok {K : PySem.W.Frag} {C : Addr} (h : kitEB K C = true) : KitC K C := by
  obtain ⟨h1, h⟩ := Bool.and_eq_true_iff.mp h
  obtain ⟨h2, h⟩ := Bool.and_eq_true_iff.mp h
  obtain ⟨h3, h⟩ := Bool.and_eq_true_iff.mp h
  obtain ⟨h4, h⟩ := Bool.and_eq_true_iff.mp h
  obtain ⟨h5, h⟩ := Bool.and_eq_true_iff.mp h
  obtain ⟨h6, h⟩ := Bool.and_eq_true_iff.mp h
  obtain ⟨h7, h8⟩ := Bool.and_eq_true_iff.mp h
  exact ⟨h1, of_decide_eq_true h2, of_decide_eq_true h3, of_decide_eq_true h4, of_decide_eq_true h5, of_decide_eq_true h6, of_decide_eq_true h7, of_decide_eq_true h8⟩
def oexB (K : PySem.W.Frag) (C : Addr) : Bool := (match K.lookup C with
  | some ⟨.type "type", _, .cls cd, sl⟩ => (match cd.mro, sl.toList with
    | .ref C' :: bm, [_, _, _, _, some (.builtin n), _] => C' == C && n == "ValueError.__new__" && !cd.hasDel && cd.hasDict && PySem.HandSPX.refsVE bm
    | _, _ => false)
  | _ => false) && (decide (PySem.W.findIn K (.ref C) "__setattr__" = some (some (.builtin "object.__setattr__"))) && (decide (PySem.W.subIn K (.ref C) (.type "BaseException") = some true) && (decide (PySem.W.typeIn K (.ref C) = some (.type "type")) && PySem.W.keepIn K (.ref C))))
theorem oexB_ok {K : PySem.W.Frag} {C : Addr} (h : oexB K C = true) : OexC K C := by
  obtain ⟨q, h⟩ := Bool.and_eq_true_iff.mp h
  obtain ⟨h2, h⟩ := Bool.and_eq_true_iff.mp h
  obtain ⟨h3, h⟩ := Bool.and_eq_true_iff.mp h
  obtain ⟨h4, h5⟩ := Bool.and_eq_true_iff.mp h
  refine ⟨?_, of_decide_eq_true h2, of_decide_eq_true h3, of_decide_eq_true h4, h5⟩
  split at q
  · rename_i dd cd sl ho
    split at q
    · rename_i C' bm k0 k1 k2 k3 n k5 hm hs
      simp only [Bool.and_eq_true, beq_iff_eq, Bool.not_eq_true'] at q
      obtain ⟨⟨⟨⟨rfl, rfl⟩, hdel⟩, hdic⟩, ht⟩ := q
      obtain ⟨nm, bs, mro, ns, qn, hd, sn, sub, ab, col, del⟩ := cd
      dsimp only at hm hdel hdic
      subst hm hdel hdic
      have hsl : sl = #[k0, k1, k2, k3, some (.builtin "ValueError.__new__"), k5] := by
        obtain ⟨l⟩ := sl
        simp only at hs
        rw [hs]
      subst hsl
      exact ⟨nm, qn, ns, bs, bm, sn, sub, ab, col, dd, k0, k1, k2, k3, k5, ho, ht⟩
    · cases q
  · cases q
section
variable {X : Cx}
theorem inst_at {pins : List (Addr × Obj)} {σ : St} {H : Hp} {s : Shared} {a C dd : Addr} {fs : List (Str × V)} (I : Inv X pins σ H s) (e : H a = some (exT a (.ref C) (some dd))) (ed : H dd = some (.xd fs)) : ∃ oe od, PySem.W.InstAt s.heap a oe C (some od) := by
  obtain ⟨oe, vs, ha, hz, hd⟩ := exT_at I.hok e
  have hx : ObjOk X.prog X.w H s.heap dd (.xd fs) := I.hok dd _ ed
  obtain ⟨mA, hns, hr⟩ := hx
  obtain ⟨od, ho, hl⟩ := lookIn_ns hns
  exact ⟨oe, od, ha, hz.1, by unfold PySem.W.notCls; rw [hd] <;> rfl, by rw [hz.2]; exact ho⟩
/-- isinstance(e, c), e a caught exception -/
def rIsX (K : PySem.W.Frag) : List V → Hp → VK → Prop := fun xs H Q => ∃ (a C dd : Addr) (fs : List (Str × V)) (c : V) (cv : Value) (b : Bool), xs = [.ref a, c] ∧ H a = some (exT a (.ref C) (some dd)) ∧ H dd = some (.xd fs) ∧ KitC K C ∧ ClsV c cv ∧ PySem.W.kitOne K (.ref C) cv = some b ∧ Q (.bl b) H
theorem call_isX (K : PySem.W.Frag) (hK : X.K = K) : CallR X (.builtin "isinstance") (rIsX K) := by
  subst hK
  intro pins s σ H xs us Q I r h
  obtain ⟨a, C, dd, fs, c, cv, b, rfl, ha, hd, T, k, e, q⟩ := h
  obtain ⟨u1, u2, rfl, r1, r2⟩ := vals2 r
  have e2 := k.eq r2
  subst e2
  cases (show u1 = Value.ref a from r1)
  obtain ⟨oe, od, J⟩ := inst_at I ha hd
  exact PySem.W.kia_one (PySem.W.kitx_exc T.hc T.hg T.hk T.hs T.ha T.hn T.ht T.hm) I.kIn J e (fun z => nomatch z) fun tk => ⟨.bl b, H, I.tok tk, rfl, q⟩
/-- isinstance(e, (c1, c2, ..)) -/
def rIsXT (K : PySem.W.Frag) : List V → Hp → VK → Prop := fun xs H Q => ∃ (a C dd tp : Addr) (fs : List (Str × V)) (cs : List V) (us : List Value) (b : Bool), xs = [.ref a, .ref tp] ∧ H tp = some (.tup cs) ∧ Paired ClsV cs us ∧ H a = some (exT a (.ref C) (some dd)) ∧ H dd = some (.xd fs) ∧ KitC K C ∧ PySem.W.kitAny K (.ref C) us = some b ∧ Q (.bl b) H
theorem call_isXT (K : PySem.W.Frag) (hK : X.K = K) : CallR X (.builtin "isinstance") (rIsXT K) := by
  subst hK
  intro pins s σ H xs us Q I r h
  obtain ⟨a, C, dd, tp, fs, cs, ws, b, rfl, hT, k, ha, hd, T, e, q⟩ := h
  obtain ⟨u1, u2, rfl, r1, r2⟩ := vals2 r
  cases (show u1 = Value.ref a from r1)
  cases (show u2 = Value.ref tp from r2)
  obtain ⟨oe, od, J⟩ := inst_at I ha hd
  obtain ⟨_, its, rv, o, h1, h2, n, h3⟩ := (show ObjOk X.prog X.w H s.heap tp (.tup cs) from I.hok tp _ hT)
  have e3 := ClsV.all k rv
  subst e3
  obtain ⟨oc, od', dt, sl⟩ := o
  simp only at h2 h3
  subst h2 h3
  exact PySem.W.kia_tup (PySem.W.kitx_exc T.hc T.hg T.hk T.hs T.ha T.hn T.ht T.hm) I.kIn J h1 e (fun z => nomatch z) fun tk => ⟨.bl b, H, I.tok tk, rfl, q⟩
end
end L2

namespace Mw
open PySem L2
open Evl (Ex)
open He (ga ma)
/-! ### errors as data -/
/-- what an error bears -/
inductive Pay where
  | int (i : Int)
  | tup (l : List Int)
  | str (s : PySem.Str)
  | rows (m : List (List Int))
structure Er where
  cls : PySem.Str
  pay : Pay
def Pay.toInt : Pay → Option Int
  | .int i => some i
  | _ => none
def Pay.toTup : Pay → Option (List Int)
  | .tup i => some i
  | _ => none
def Pay.toStr : Pay → Option PySem.Str
  | .str i => some i
  | _ => none
def Pay.toRows : Pay → Option (List (List Int))
  | .rows i => some i
  | _ => none
def rPay (K : PySem.W.Frag) : Rp Pay := ⟨fun H v p => match p with
  | .int i => rInt.r H v i
  | .tup l => (rTup K rInt).r H v l
  | .str s => rStr.r H v s
  | .rows m => (rLst (rLst rInt)).r H v m, fun {_ _ _ p} e h => match p, h with
  | .int _, h => rInt.up e h
  | .tup _, h => (rTup K rInt).up e h
  | .str _, h => rStr.up e h
  | .rows _, h => (rLst (rLst rInt)).up e h⟩
/-- whether errors of the class c belong to the class d -/
def subE (c d : PySem.Str) : Bool := decide (c = d) || decide (d = "PostError")
/-- the address of the one __init__ -/
def eiA (K : PySem.W.Frag) : Addr := ma K (ga K "PostError") "__init__"
structure ErrF (K : PySem.W.Frag) (mg : PySem.Str → Option Value) (L : List PySem.Str) : Prop where
  glo : ∀ c ∈ L, mg c = some (.ref (ga K c))
  oex : ∀ c ∈ L, OexC K (ga K c)
  xf : ∀ c ∈ L, XfC K (ga K c)
  kit : ∀ c ∈ L, KitC K (ga K c)
  noV : ∀ c ∈ L, PySem.W.findIn K (.ref (ga K c)) "value" = some none
  ini : ∀ c ∈ L, PySem.W.findIn K (.ref (ga K c)) "__init__" = some (some (.ref (eiA K)))
  fnI : PySem.W.typeIn K (.ref (eiA K)) = some (.type "function")
  exm : ∀ c ∈ L, ∀ d ∈ L, PySem.W.exmOne K (.ref (ga K c)) (.ref (ga K d)) = some (subE c d)
  kio : ∀ c ∈ L, ∀ d ∈ L, PySem.W.kitOne K (.ref (ga K c)) (.ref (ga K d)) = some (subE c d)
  kiV : ∀ c ∈ L, PySem.W.kitOne K (.ref (ga K c)) (.type "ValueError") = some true
def errB (L : List PySem.Str) : Hm.Fc := fun K => (L.all fun c => He.eqO (PySem.W.nsIn K mainGlobals c) (some (some (.ref (ga K c)))) && (oexB K (ga K c) && (xfB K (ga K c) && (kitEB K (ga K c) && (decide (PySem.W.findIn K (.ref (ga K c)) "value" = some none) && (decide (PySem.W.findIn K (.ref (ga K c)) "__init__" = some (some (.ref (eiA K)))) &&
  (decide (PySem.W.kitOne K (.ref (ga K c)) (.type "ValueError") = some true) && (L.all fun d => decide (PySem.W.exmOne K (.ref (ga K c)) (.ref (ga K d)) = some (subE c d)) && decide (PySem.W.kitOne K (.ref (ga K c)) (.ref (ga K d)) = some (subE c d)))))))))) && decide (PySem.W.typeIn K (.ref (eiA K)) = some (.type "function"))
theorem errB_ok {K : PySem.W.Frag} {h : Heap} {mg : PySem.Str → Option Value} {L : List PySem.Str} (X : K.In h) (G : h.Ns mainGlobals mg) (b : errB L K = true) : ErrF K mg L := by
  obtain ⟨b1, b2⟩ := Bool.and_eq_true_iff.mp b
  have b1 := List.all_eq_true.mp b1
  have go : ∀ c ∈ L, mg c = some (.ref (ga K c)) ∧ OexC K (ga K c) ∧ XfC K (ga K c) ∧ KitC K (ga K c) ∧ PySem.W.findIn K (.ref (ga K c)) "value" = some none ∧ PySem.W.findIn K (.ref (ga K c)) "__init__" = some (some (.ref (eiA K))) ∧ PySem.W.kitOne K (.ref (ga K c)) (.type "ValueError") = some true ∧
      ∀ d ∈ L, PySem.W.exmOne K (.ref (ga K c)) (.ref (ga K d)) = some (subE c d) ∧ PySem.W.kitOne K (.ref (ga K c)) (.ref (ga K d)) = some (subE c d) := fun c hc => by
    have z := b1 c hc
    obtain ⟨z1, z⟩ := Bool.and_eq_true_iff.mp z
    obtain ⟨z2, z⟩ := Bool.and_eq_true_iff.mp z
    obtain ⟨z3, z⟩ := Bool.and_eq_true_iff.mp z
    obtain ⟨z4, z⟩ := Bool.and_eq_true_iff.mp z
    obtain ⟨z5, z⟩ := Bool.and_eq_true_iff.mp z
    obtain ⟨z6, z⟩ := Bool.and_eq_true_iff.mp z
    obtain ⟨z7, z8⟩ := Bool.and_eq_true_iff.mp z
    refine ⟨PySem.W.mg_of X G (He.eqO_ok z1), oexB_ok z2, xfB_ok z3, kitEB_ok z4, of_decide_eq_true z5, of_decide_eq_true z6, of_decide_eq_true z7, fun d hd => ?_⟩
    have y := List.all_eq_true.mp z8 d hd
    obtain ⟨y1, y2⟩ := Bool.and_eq_true_iff.mp y
    exact ⟨of_decide_eq_true y1, of_decide_eq_true y2⟩
  exact ⟨fun c hc => (go c hc).1, fun c hc => (go c hc).2.1, fun c hc => (go c hc).2.2.1, fun c hc => (go c hc).2.2.2.1, fun c hc => (go c hc).2.2.2.2.1, fun c hc => (go c hc).2.2.2.2.2.1, of_decide_eq_true b2,
    fun c hc d hd => ((go c hc).2.2.2.2.2.2.2 d hd).1, fun c hc d hd => ((go c hc).2.2.2.2.2.2.2 d hd).2, fun c hc => (go c hc).2.2.2.2.2.2.1⟩
/-- an error in flight -/
def rEr (K : PySem.W.Frag) (L : List PySem.Str) (F : Hp) (cls : Value) (d : Option Addr) (er : Er) : Prop := er.cls ∈ L ∧ ∃ dd fs pv, cls = .ref (ga K er.cls) ∧ d = some dd ∧ F dd = some (.xd fs) ∧ fs.lookup ("value" : PySem.Str) = some pv ∧ (rPay K).r F pv er.pay
theorem rEr.up {K : PySem.W.Frag} {L : List PySem.Str} {F F' : Hp} {cls : Value} {d : Option Addr} {er : Er} (e : Ex F F') (h : rEr K L F cls d er) : rEr K L F' cls d er := by
  obtain ⟨h0, dd, fs, pv, h1, h2, h3, h4, h5⟩ := h
  exact ⟨h0, dd, fs, pv, h1, h2, e _ _ h3, h4, (rPay K).up e h5⟩
/-- an error that was caught -/
def rExc (K : PySem.W.Frag) (L : List PySem.Str) : Rp Er := ⟨fun F v er => er.cls ∈ L ∧ ∃ a dd fs pv, v = .ref a ∧ F a = some (exT a (.ref (ga K er.cls)) (some dd)) ∧ F dd = some (.xd fs) ∧ fs.lookup ("value" : PySem.Str) = some pv ∧ (rPay K).r F pv er.pay,
  fun {_ _ _ _} e ⟨h0, a, dd, fs, pv, h1, h2, h3, h4, h5⟩ => ⟨h0, a, dd, fs, pv, h1, e _ _ h2, e _ _ h3, h4, (rPay K).up e h5⟩⟩
section
variable {α β γ : Type} {ra : Rp α} {rb : Rp β} {rc : Rp γ} {σ : L2.St} {F H : Hp} {cs : Cs} {ta tb te : TE} {K : PySem.W.Frag} {L : List PySem.Str} {mg : PySem.Str → Option Value} {c : Act}
theorem nn_exc : NN (rExc K L) := fun F v a r e => by
  obtain ⟨_, _, _, _, _, rfl, _⟩ := r
  cases e
theorem em_val {m : Option Er} (E : ErrF K mg L) (h : EM (rExc K L) te σ F cs m) : EM (rPay K) (tXfT K "value" te) σ F cs (m.map (·.pay)) := fun d q c F1 H e k Q hQ => by
  cases m with
  | none => cases q
  | some er =>
    cases q
    refine h er rfl c F1 H e k _ fun v F2 H2 e2 k2 r2 => ?_
    obtain ⟨h0, a, dd, fs, pv, rfl, h2, h3, h4, h5⟩ := r2
    exact ⟨a, _, dd, fs, pv, rfl, k2.ex _ _ h2, E.xf _ h0, E.noV _ h0, k2.ex _ _ h3, h4, hQ pv F2 H2 e2 k2 h5⟩
theorem em_payI {m : Option Pay} (h : EM (rPay K) te σ F cs m) : EM rInt te σ F cs (m.bind Pay.toInt) := fun d q c F1 H e k Q hQ => by
  obtain ⟨p, q1, q2⟩ := bind_some q
  refine h p q1 c F1 H e k Q fun v F2 H2 e2 k2 r2 => hQ v F2 H2 e2 k2 ?_
  cases p <;> cases q2
  exact r2
theorem em_payT {m : Option Pay} (h : EM (rPay K) te σ F cs m) : EM (rTup K rInt) te σ F cs (m.bind Pay.toTup) := fun d q c F1 H e k Q hQ => by
  obtain ⟨p, q1, q2⟩ := bind_some q
  refine h p q1 c F1 H e k Q fun v F2 H2 e2 k2 r2 => hQ v F2 H2 e2 k2 ?_
  cases p <;> cases q2
  exact r2
theorem em_payS {m : Option Pay} (h : EM (rPay K) te σ F cs m) : EM rStr te σ F cs (m.bind Pay.toStr) := fun d q c F1 H e k Q hQ => by
  obtain ⟨p, q1, q2⟩ := bind_some q
  refine h p q1 c F1 H e k Q fun v F2 H2 e2 k2 r2 => hQ v F2 H2 e2 k2 ?_
  cases p <;> cases q2
  exact r2
theorem em_payR {m : Option Pay} (h : EM (rPay K) te σ F cs m) : EM (rLst (rLst rInt)) te σ F cs (m.bind Pay.toRows) := fun d q c F1 H e k Q hQ => by
  obtain ⟨p, q1, q2⟩ := bind_some q
  refine h p q1 c F1 H e k Q fun v F2 H2 e2 k2 r2 => hQ v F2 H2 e2 k2 ?_
  cases p <;> cases q2
  exact r2
theorem em_isX {m : Option Er} {d : PySem.Str} (E : ErrF K mg L) (hd : d ∈ L) (h : EM (rExc K L) te σ F cs m) : EM rBool (tCB (rIsX K) (tCons te (tCons (tC (.ref (ga K d))) tNil))) σ F cs (m.map fun e => subE e.cls d) := fun b q c F1 H e k Q hQ => by
  cases m with
  | none => cases q
  | some er =>
    cases q
    refine h er rfl c F1 H e k _ fun v F2 H2 e2 k2 r2 => ?_
    obtain ⟨h0, a, dd, fs, pv, rfl, h2, h3, h4, h5⟩ := r2
    exact ⟨a, _, dd, fs, _, _, _, rfl, k2.ex _ _ h2, k2.ex _ _ h3, E.kit _ h0, .own _, E.kio _ h0 _ hd, hQ _ F2 H2 e2 k2 rfl⟩
theorem em_isXV {m : Option Er} (E : ErrF K mg L) (h : EM (rExc K L) te σ F cs m) : EM rBool (tCB (rIsX K) (tCons te (tCons (tC (.ty "ValueError")) tNil))) σ F cs (m.map fun _ => true) := fun b q c F1 H e k Q hQ => by
  cases m with
  | none => cases q
  | some er =>
    cases q
    refine h er rfl c F1 H e k _ fun v F2 H2 e2 k2 r2 => ?_
    obtain ⟨h0, a, dd, fs, pv, rfl, h2, h3, h4, h5⟩ := r2
    exact ⟨a, _, dd, fs, _, _, _, rfl, k2.ex _ _ h2, k2.ex _ _ h3, E.kit _ h0, .ty _, E.kiV _ h0, hQ _ F2 H2 e2 k2 rfl⟩
theorem em_isXT2 {m : Option Er} {d1 d2 : PySem.Str} (E : ErrF K mg L) (hd1 : d1 ∈ L) (hd2 : d2 ∈ L) (h : EM (rExc K L) te σ F cs m) : EM rBool (tCB (rIsXT K) (tCons te (tCons (tTup (tCons (tC (.ref (ga K d1))) (tCons (tC (.ref (ga K d2))) tNil))) tNil))) σ F cs (m.map fun e => subE e.cls d1 || subE e.cls d2) := fun b q c F1 H e k Q hQ => by
  cases m with
  | none => cases q
  | some er =>
    cases q
    refine h er rfl c F1 H e k _ fun v F2 H2 e2 k2 r2 => ?_
    obtain ⟨h0, a, dd, fs, pv, rfl, h2, h3, h4, h5⟩ := r2
    refine ⟨by show 2 ≤ sizeLine; decide, fun p hp => ?_⟩
    have ep := Ex.new (o := HO.tup [.ref (ga K d1), .ref (ga K d2)]) (k2.fnone hp)
    have k3 := k2.lay (o := HO.tup [.ref (ga K d1), .ref (ga K d2)]) hp
    refine ⟨a, _, dd, p, fs, _, [.ref (ga K d1), .ref (ga K d2)], _, rfl, upd_same, .cons (.own _) (.cons (.own _) .nil), k3.ex _ _ (ep _ _ h2), k3.ex _ _ (ep _ _ h3), E.kit _ h0, ?_, hQ _ _ _ (e2.trans ep) k3 rfl⟩
    unfold PySem.W.kitAny
    rw [E.kio _ h0 _ hd1]
    show _ = some (subE er.cls d1 || subE er.cls d2)
    cases subE er.cls d1 with
    | true => rfl
    | false =>
      show PySem.W.kitAny K _ _ = _
      unfold PySem.W.kitAny
      rw [E.kio _ h0 _ hd2]
      cases subE er.cls d2 <;> rfl
end
end Mw
/-! ### calls that may raise, at the slots as they are -/
namespace L2
open PySem PySem.Spec PyProof.Rows
section
variable {X : Cx} {CX : CXT} {k n : Nat} {f C : Addr} {fd : FuncData} {ps ks : List Str} {sp : Sp} {E : St → XK} {x m : Str} {p pos apos : Pos} {e o : Expr} {es : List Expr} {kws : List Keyword} {ta : TE} {t tk : TA} {g : List Value → List Value → List Value} {gV : List V → List V → List V}
theorem pe_call0S (F : FnOk X.prog X.w X.K X.mg X.base CX k f fd ps sp) (hr : Room k X.A) (hg : Gl X x) (hm : X.mg x = some (.ref f)) (hk : PySem.W.keepIn X.K (.ref f) = true) (hb : Binds X.K fd ps []) (hx : ∀ σ, PassesAt CX X σ (E σ))
    (hdb : (x == ("__debug__" : Str)) = false := by decide) : PE X (.Call (.Name x p) [] [] pos) (tCallS sp E tNil) := by
  refine ⟨fun pins s σ H Q I h => ?_⟩
  refine wpAny_Call_Name_kw (ld_glob I hg hm ?_ hdb)
  exact PySem.W.callWith_K0 I.kIn hk (run_fnS (us := []) F hr hb (hx σ) I .nil h)
theorem run_fnkS {pins : List (Addr × Obj)} {σ : St} {H : Hp} {s : Shared} {Q : VK} {us ws : List Value} {vs zs : List V} (F : FnOk X.prog X.w X.K X.mg X.base CX k f fd ps sp) (hr : Room k X.A) (hb : KBn X.K fd ps n ks g gV) (hx : PassesAt CX X σ (E σ))
    (I : Inv X pins σ H s) (r : Vals vs us) (rz : Vals zs ws) (l1 : vs.length = n) (l2 : zs.length = ks.length) (h : sp (gV vs zs) H Q (E σ)) : wpAny (model X.prog X.w) X.A (call (.ref f) us (ks.zip ws)) (EP X pins σ Q) X.xe s := by
  have r2 := hb.rel r rz
  have e1 : us.length = n := r.length.symm.trans l1
  have e2 : ws.length = ks.length := rz.length.symm.trans l2
  refine wpAny_call (codeAny_mono (F.run X.A X.stack s H ⟨us, ks.zip ws⟩ (g us ws) (gV vs zs) Q (E σ) hr I.env0 (hb.to s us ws I.kIn e1 e2) r2 h) fun r s' hq => ?_)
  cases r with
  | error e => exact hx pins H s e s' I hq
  | ok fl =>
    cases fl with
    | ret u => exact I.after hq
    | next => exact False.elim hq
    | brk => exact False.elim hq
    | cont => exact False.elim hq
/-- f(e, .., k = v, ..) -/
def tCallNS (n m : Nat) (sp : Sp) (gV : List V → List V → List V) (E : St → XK) (t tk : TA) : TE := fun σ H Q => t σ H fun vs H1 => tk σ H1 fun zs H2 => vs.length = n ∧ zs.length = m ∧ sp (gV vs zs) H2 Q (E σ)
theorem pe_callNS (F : FnOk X.prog X.w X.K X.mg X.base CX k f fd ps sp) (hr : Room k X.A) (hg : Gl X x) (hm : X.mg x = some (.ref f)) (hk : PySem.W.keepIn X.K (.ref f) = true) (hb : KBn X.K fd ps n ks g gV) (hx : ∀ σ, PassesAt CX X σ (E σ))
    (ha : PA X (e :: es) t) (hkw : PK X kws tk) (hall : (backToKw pos (keywordEach kws X.env)).all (·.1.isSome) = true := by rfl) (hks : (backToKw pos (keywordEach kws X.env)).filterMap (·.1) = ks := by rfl)
    (hdb : (x == ("__debug__" : Str)) = false := by decide) (he : starEach (e :: es) X.env = (false, eval e X.env) :: starEach es X.env := by rfl)
    (hpl : ((backTo pos (starEach (e :: es) X.env)).any (·.1) || (backToKw pos (keywordEach kws X.env)).any (·.1.isNone)) = false := by rfl) :
    PE X (.Call (.Name x p) (e :: es) kws pos) (tCallNS n ks.length sp gV E t tk) := by
  refine ⟨fun pins s σ H Q I h => ?_⟩
  refine wpAny_Call_Name_kw (ld_glob I hg hm ?_ hdb)
  refine PySem.W.callWith_KW (h₀ := X.base) I.ok.mod.kin hk hall (thn (ha.run pos pins s σ H _ I h) fun us s1 ⟨vs, H1, I1, r, q⟩ => ?_) hpl he
  refine thn (hkw.run pos pins s1 σ H1 _ I1 q) fun ws s2 ⟨zs, H2, I2, rz, l1, l2, q2⟩ => ⟨I2.kIn, ?_⟩
  rw [hks]
  exact run_fnkS F hr hb (hx σ) I2 r rz l1 l2 q2
/-- o.m(e, ..) -/
def tMethX (C : Addr) (m : Str) (sp : Sp) (E : St → XK) (ta : TE) (t : TA) : TE := fun σ H Q => ta σ H fun x H1 => ∃ a dx fs, x = .ref a ∧ H1 a = some (.ins C dx fs) ∧ fs.lookup m = none ∧ t σ H1 fun vs H2 => sp (x :: vs) H2 Q (E σ)
theorem pe_methX {pl : Sem Bool} (he : PE X o ta) (c : Cls X.K C) (hm : Meth X.K C m f) (F : FnOk X.prog X.w X.K X.mg X.base CX k f fd ps sp) (hr : Room k X.A) (hb : Binds X.K fd ps []) (hx : ∀ σ, PassesAt CX X σ (E σ)) (ha : PA X (e :: es) t)
    (hst : starEach (e :: es) X.env = (false, eval e X.env) :: starEach es X.env := by rfl) (hpl : (backTo pos (starEach es X.env)).any (·.1) = false := by rfl)
    (ht : eval (.Call (.Attribute o m apos) (e :: es) [] pos) X.env = (do
      let ov ← eval o X.env
      standAt apos.atName
      let (f, first) ← holding [ov] (getMethod ov m pl)
      callWith pos f first (backTo pos (starEach (e :: es) X.env)) (backToKw pos (keywordEach [] X.env))) := by rfl) :
    PE X (.Call (.Attribute o m apos) (e :: es) [] pos) (tMethX C m sp E ta t) := by
  refine ⟨fun pins s σ H Q I h => ?_⟩
  refine PySem.W.methodCall_KW (pl := pl) (thn (he.run pins s σ H _ I h) fun u s1 ⟨x, H1, I1, rx, a, dx, fs, ex, ea, l, q⟩ => ?_) ht
  subst ex
  obtain rfl : u = Value.ref a := rx
  refine getmeth_ok I1 ea c hm l ?_
  refine PySem.W.callWith_K (first := [.ref a]) (h₀ := X.base) I.ok.mod.kin hm.kp (thn (ha.run pos pins s1 σ H1 _ I1 q) fun us s2 ⟨vs, H2, I2, r, q2⟩ => ⟨I2.kIn, ?_⟩) hst hpl
  exact run_fnS (us := .ref a :: us) (vs := .ref a :: vs) F hr hb (hx σ) I2 (.cons rfl r) q2
theorem pe_meth0X {pl : Sem Bool} (he : PE X o ta) (c : Cls X.K C) (hm : Meth X.K C m f) (F : FnOk X.prog X.w X.K X.mg X.base CX k f fd ps sp) (hr : Room k X.A) (hb : Binds X.K fd ps []) (hx : ∀ σ, PassesAt CX X σ (E σ))
    (ht : eval (.Call (.Attribute o m apos) [] [] pos) X.env = (do
      let ov ← eval o X.env
      standAt apos.atName
      let (f, first) ← holding [ov] (getMethod ov m pl)
      callWith pos f first (backTo pos (starEach [] X.env)) (backToKw pos (keywordEach [] X.env))) := by rfl) :
    PE X (.Call (.Attribute o m apos) [] [] pos) (tMethX C m sp E ta tNil) := by
  refine ⟨fun pins s σ H Q I h => ?_⟩
  refine PySem.W.methodCall_KW (pl := pl) (thn (he.run pins s σ H _ I h) fun u s1 ⟨x, H1, I1, rx, a, dx, fs, ex, ea, l, q⟩ => ?_) ht
  subst ex
  obtain rfl : u = Value.ref a := rx
  refine getmeth_ok I1 ea c hm l ?_
  exact PySem.W.callWith_K0 (first := [.ref a]) I1.kIn hm.kp (run_fnS (us := [.ref a]) (vs := [.ref a]) F hr hb (hx σ) I1 (.cons rfl .nil) q)
/-- C(e, ..) -/
def tMakeS (C : Addr) (sp : Sp) (E : St → XK) (t : TA) : TE := fun σ H Q => t σ H fun vs H1 => ∀ x dx, H1 x = none → H1 dx = none → dx ≠ x →
  sp (.ref x :: vs) (upd (upd H1 dx (.own x)) x (.ins C dx [])) (fun v H2 => v = .non ∧ Q (.ref x) H2) (E σ)
theorem run_makeS {pins : List (Addr × Obj)} {σ : St} {H : Hp} {s : Shared} {Q : VK} {us : List Value} {vs : List V} (M : Mk X.K C f) (F : FnOk X.prog X.w X.K X.mg X.base CX k f fd ps sp) (hr : Room (k + 1) X.A) (hb : Binds X.K fd ps [])
    (hx : PassesAt CX X σ (E σ)) (I : Inv X pins σ H s) (r : Vals vs us)
    (h : ∀ x dx, H x = none → H dx = none → dx ≠ x → sp (.ref x :: vs) (upd (upd H dx (.own x)) x (.ins C dx [])) (fun v H2 => v = .non ∧ Q (.ref x) H2) (E σ)) :
    wpAny (model X.prog X.w) X.A (call (.ref C) us) (EP X pins σ Q) X.xe s := by
  have hq := h (s.heap.objs.size + 1) s.heap.objs.size (I.hok.fresh (Nat.le_succ _)) (I.hok.fresh (Nat.le_refl _)) (Nat.ne_of_lt (Nat.lt_succ_self _))
  have I2 := Inv.made (C := C) I
  have r2 : Vals (V.ref (s.heap.objs.size + 1) :: vs) (Value.ref (s.heap.objs.size + 1) :: us) := .cons rfl r
  have hl : (Value.ref (s.heap.objs.size + 1) :: us).length = ps.length := by
    have e := r2.length
    rw [F.len _ _ _ _ hq] at e
    exact e.symm
  have b := hb _ (Value.ref (s.heap.objs.size + 1) :: us) I2.kIn (by rw [List.append_nil]; exact hl)
  rw [List.append_nil] at b
  refine wpAny_call (make_map (f := f) I.kIn M.makes M.init (beq_iff_eq.mp M.fn) (codeAny_mono (F.run _ X.stack _ _ ⟨Value.ref (s.heap.objs.size + 1) :: us, []⟩ (Value.ref (s.heap.objs.size + 1) :: us) _ _ (E σ) (hr.make C us [])
    (I2.env0.make C us []) b r2 hq) fun r s' hq' => ?_))
  cases r with
  | error e => exact hx pins _ _ e s' I2 hq'
  | ok fl =>
    cases fl with
    | ret u =>
      obtain ⟨v, H', I3, rv, ev, q3⟩ := I2.after hq'
      subst ev
      exact ⟨rv, ⟨V.ref (s.heap.objs.size + 1), H', I3, rfl, q3⟩⟩
    | next => exact False.elim hq'
    | brk => exact False.elim hq'
    | cont => exact False.elim hq'
theorem pe_makeS (M : Mk X.K C f) (F : FnOk X.prog X.w X.K X.mg X.base CX k f fd ps sp) (hr : Room (k + 1) X.A) (hg : Gl X x) (hm : X.mg x = some (.ref C)) (hb : Binds X.K fd ps []) (hx : ∀ σ, PassesAt CX X σ (E σ))
    (ha : PA X (e :: es) t) (hdb : (x == ("__debug__" : Str)) = false := by decide) (he : starEach (e :: es) X.env = (false, eval e X.env) :: starEach es X.env := by rfl) (hpl : (backTo pos (starEach es X.env)).any (·.1) = false := by rfl) :
    PE X (.Call (.Name x p) (e :: es) [] pos) (tMakeS C sp E t) := by
  refine ⟨fun pins s σ H Q I h => ?_⟩
  refine wpAny_Call_Name_kw (ld_glob I hg hm ?_ hdb)
  refine PySem.W.callWith_K (h₀ := X.base) I.ok.mod.kin M.kp (thn (ha.run pos pins s σ H _ I h) fun us s1 ⟨vs, H1, I1, r, q⟩ => ⟨I1.kIn, ?_⟩) he hpl
  exact run_makeS M F hr hb (hx σ) I1 r q
end
end L2

namespace Mw
open PySem L2
open Evl (Ex)
open He (ga ma)
/-! ### argument lists of any kinds -/
structure Gp (δ : Type) where
  r : Hp → List V → δ → Prop
  n : Nat
  up : ∀ {H H' : Hp} {vs : List V} {a : δ}, Ex H H' → r H vs a → r H' vs a
  len : ∀ {H : Hp} {vs : List V} {a : δ}, r H vs a → vs.length = n
def gpN : Gp Unit := ⟨fun _ vs _ => vs = [], 0, fun _ h => h, fun h => by subst h; rfl⟩
def gpC {α δ : Type} (ra : Rp α) (g : Gp δ) : Gp (α × δ) := ⟨fun H vs d => ∃ v ws, vs = v :: ws ∧ ra.r H v d.1 ∧ g.r H ws d.2, g.n + 1,
  fun e ⟨v, ws, h1, h2, h3⟩ => ⟨v, ws, h1, ra.up e h2, g.up e h3⟩, fun ⟨v, ws, h1, h2, h3⟩ => by subst h1; rw [List.length_cons, g.len h3]⟩
def EAG {δ : Type} (g : Gp δ) (ta : TA) (σ : L2.St) (F : Hp) (cs : Cs) (m : Option δ) : Prop := ∀ d, m = some d → ∀ c F1 H, Ex F F1 → Cov c F1 cs H → ∀ Q : List V → Hp → Prop, (∀ vs F2 H2, Ex F1 F2 → Cov c F2 cs H2 → g.r F2 vs d → Q vs H2) → ta σ H Q
/-! ### what may raise -/
def okG {α : Type} : Except Er α → Option α
  | .ok a => some a
  | .error _ => none
def EMX {α : Type} (K : PySem.W.Frag) (L : List PySem.Str) (W : WX) (ra : Rp α) (te : TE) (σ : L2.St) (F : Hp) (cs : Cs) (m : Option (Except Er α)) : Prop := ∀ d, m = some d → ∀ c F1 H, Ex F F1 → Cov c F1 cs H → ∀ Q : VK,
  (∀ x, d = .ok x → ∀ v F2 H2, Ex F1 F2 → Cov c F2 cs H2 → ra.r F2 v x → Q v H2) → (∀ er, d = .error er → ∀ cls dd F2 H2, Ex F1 F2 → Cov c F2 cs H2 → rEr K L F2 cls dd er → W cls dd σ H2) → te σ H Q
def mkX {γ ρ : Type} (fin : γ → Option ρ) (r : Option (Except Er (Unit × γ))) : Option (Except Er ρ) := r.bind fun r => match r with
  | .error er => some (.error er)
  | .ok x => (fin x.2).map .ok
def thenX {α γ : Type} (gg : α → Option γ) (r : Except Er α) : Option (Except Er γ) := match r with
  | .error er => some (.error er)
  | .ok x => (gg x).map .ok
/-- a promise of a def that may raise -/
def Xsp {δ ρ : Type} (K : PySem.W.Frag) (L : List PySem.Str) (g : Gp δ) (rr : Rp ρ) (m : δ → Option (Except Er ρ)) : Sp := fun vs H Q E => ∃ (F : Hp) (a : δ) (d : Except Er ρ), Ex F H ∧ g.r F vs a ∧ m a = some d ∧
  (∀ x, d = .ok x → ∀ v F2 H2, Cov ⟨H, F, []⟩ F2 [] H2 → rr.r F2 v x → Q v H2) ∧ (∀ er, d = .error er → ∀ cls dd F2 H2, Cov ⟨H, F, []⟩ F2 [] H2 → rEr K L F2 cls dd er → E cls dd H2)
theorem Xsp_len {δ ρ : Type} {K : PySem.W.Frag} {L : List PySem.Str} {g : Gp δ} {rr : Rp ρ} {m : δ → Option (Except Er ρ)} {vs : List V} {H : Hp} {Q : VK} {E : XK} (h : Xsp K L g rr m vs H Q E) : vs.length = g.n := by
  obtain ⟨_, _, _, _, h, _⟩ := h
  exact g.len h
/-- .. of an __init__ that may raise; its first argument is the object that is made -/
def Ysp {δ ρ γ : Type} (K : PySem.W.Frag) (L : List PySem.Str) (cell : γ → Cp) (g : Gp δ) (rr : Rp ρ) (m : γ → δ → Option (Except Er (ρ × γ))) : Sp := fun vs H Q E => ∃ (F : Hp) (p : Addr) (ws : List V) (s : γ) (a : δ) (d : Except Er (ρ × γ)), vs = .ref p :: ws ∧ Cov ⟨H, F, [p]⟩ F [(p, cell s)] H ∧ g.r F ws a ∧ m s a = some d ∧
  (∀ x, d = .ok x → ∀ v F2 H2, Cov ⟨H, F, [p]⟩ F2 [(p, cell x.2)] H2 → rr.r F2 v x.1 → Q v H2) ∧ (∀ er, d = .error er → ∀ cls dd F2 H2, Cov ⟨H, F, [p]⟩ F2 [] H2 → rEr K L F2 cls dd er → E cls dd H2)
theorem Ysp_len {δ ρ γ : Type} {K : PySem.W.Frag} {L : List PySem.Str} {cell : γ → Cp} {g : Gp δ} {rr : Rp ρ} {m : γ → δ → Option (Except Er (ρ × γ))} {vs : List V} {H : Hp} {Q : VK} {E : XK} (h : Ysp K L cell g rr m vs H Q E) : vs.length = g.n + 1 := by
  obtain ⟨_, _, _, _, _, _, rfl, _, h, _⟩ := h
  rw [List.length_cons, g.len h]
structure CalX (P : Program) (w : World) (K : PySem.W.Frag) (mg : PySem.Str → Option Value) (base : Heap) (k : Nat) (x : PySem.Str) (ps : List PySem.Str) (sp : Sp) (X : FuncData → Prop) : Prop where
  ex : ∃ f fd, FnOk P w K mg base (L2.CX P w) k f fd ps sp ∧ mg x = some (.ref f) ∧ PySem.W.keepIn K (.ref f) = true ∧ Binds K fd ps [] ∧ X fd
structure CalMX (P : Program) (w : World) (K : PySem.W.Frag) (mg : PySem.Str → Option Value) (base : Heap) (k : Nat) (C : Addr) (m : PySem.Str) (ps : List PySem.Str) (sp : Sp) (X : FuncData → Prop) : Prop where
  ex : ∃ f fd, FnOk P w K mg base (L2.CX P w) k f fd ps sp ∧ Meth K C m f ∧ Binds K fd ps [] ∧ X fd
structure CalIX (P : Program) (w : World) (K : PySem.W.Frag) (mg : PySem.Str → Option Value) (base : Heap) (k : Nat) (C : Addr) (ps : List PySem.Str) (sp : Sp) (X : FuncData → Prop) : Prop where
  ex : ∃ f fd, FnOk P w K mg base (L2.CX P w) k f fd ps sp ∧ L2.Mk K C f ∧ Binds K fd ps [] ∧ X fd
/-- the errors' own __init__ -/
def spEI (K : PySem.W.Frag) (L : List PySem.Str) : Sp := fun vs H Q _ => ∃ (a : Addr) (c : PySem.Str) (y : V), vs = [.ref a, y] ∧ c ∈ L ∧ H a = some (exo a (ga K c) none) ∧ ∀ dx, H dx = none → dx ≠ a → Q .non (upd (upd H dx (exd dx [("value", y)])) a (exo a (ga K c) (some dx)))
theorem spEI_len {K : PySem.W.Frag} {L : List PySem.Str} {vs : List V} {H : Hp} {Q : VK} {E : XK} (h : spEI K L vs H Q E) : vs.length = 2 := by
  obtain ⟨_, _, _, rfl, _⟩ := h
  rfl
structure CalE (P : Program) (w : World) (K : PySem.W.Frag) (mg : PySem.Str → Option Value) (base : Heap) (L : List PySem.Str) : Prop where
  ex : ∃ fd, FnOk P w K mg base CX0 1 (eiA K) fd ["self", "value"] (spEI K L) ∧ Binds K fd ["self", "value"] []
section
variable {α β γ δ ρ : Type} {ra : Rp α} {rb : Rp β} {rc : Rp γ} {rr : Rp ρ} {g : Gp δ} {σ : L2.St} {F H : Hp} {cs : Cs} {ta : TA} {tb te : TE} {K : PySem.W.Frag} {L : List PySem.Str} {mg : PySem.Str → Option Value} {c : Act} {W : WX} {E : XK}
theorem ei_body {D : Ends} {vs : List V} {Q : VK} {L : List PySem.Str} (Er_ : ErrF K mg L) (hD : ∀ σ H, Q .non H → D.nx σ H) (h : spEI K L vs H Q E) : tOst K "value" (tVar 0) (tVar 1) D (start ["self", "value"] vs) H := by
  obtain ⟨a, c, y, rfl, hc, ea, hq⟩ := h
  exact ⟨y, rfl, .ref a, rfl, a, _, rfl, Er_.oex c hc, Er_.noV c hc, .inl ⟨ea, fun dx n ne => hD _ _ (hq dx n ne)⟩⟩
theorem eag_nil : EAG gpN tNil σ F cs (some ()) := fun d q c F1 H e k Q hQ => by
  exact hQ [] F1 H (Evl.Ex.refl _) k rfl
theorem eag_cons {m : Option α} {n : Option δ} (h : EM ra te σ F cs m) (hr : EAG g ta σ F cs n) : EAG (gpC ra g) (tCons te ta) σ F cs (m.bind fun a => n.bind fun b => some (a, b)) := fun d q c F1 H e k Q hQ => by
  obtain ⟨a, q1, q2⟩ := bind_some q
  obtain ⟨b, q3, q4⟩ := bind_some q2
  cases q4
  exact h a q1 c F1 H e k _ fun v F2 H2 e2 k2 r2 => hr b q3 c F2 H2 (e.trans e2) k2 _ fun vs F3 H3 e3 k3 r3 => hQ (v :: vs) F3 H3 (e2.trans e3) k3 ⟨v, vs, rfl, ra.up e3 r2, r3⟩
theorem ex_eq {m m' : Option (Except Er α)} (h : EMX K L W ra te σ F cs m) (e : m = m') : EMX K L W ra te σ F cs m' := e ▸ h
/-- f(e, ..) -/
theorem ex_call {m : δ → Option (Except Er ρ)} {ma : Option δ} (h : EAG g ta σ F cs ma) : EMX K L W rr (tCallS (Xsp K L g rr m) (WE W) ta) σ F cs (ma.bind m) := fun d q c F0 H0 e0 k0 Q hQ hE => by
  obtain ⟨a, q1, q2⟩ := bind_some q
  refine h a q1 c F0 H0 e0 k0 _ fun vs F1 H1 e1 k1 x1 => ?_
  exact ⟨F1, a, d, k1.ex, x1, q2, fun x ex v F9 H9 k9 r9 => hQ x ex v F9 H9 (e1.trans k9.fz) (k1.call0 k9) r9, fun er ee cls dd F9 H9 k9 r9 => hE er ee cls dd F9 H9 (e1.trans k9.fz) (k1.call0 k9) r9⟩
/-- .. where it does not raise -/
theorem em_Xcall {m : δ → Option (Except Er ρ)} {ma : Option δ} (h : EAG g ta σ F cs ma) : EM rr (tCall (Xsp K L g rr m) [] E0 ta) σ F cs ((ma.bind m).bind okG) := fun d q c F0 H0 e0 k0 Q hQ => by
  obtain ⟨y, q0, q9⟩ := bind_some q
  obtain ⟨a, q1, q2⟩ := bind_some q0
  refine h a q1 c F0 H0 e0 k0 _ fun vs F1 H1 e1 k1 x1 => ?_
  cases y with
  | error _ => cases q9
  | ok y =>
    cases q9
    refine ⟨F1, a, _, k1.ex, by rw [List.append_nil]; exact x1, q2, fun x ex v F9 H9 k9 r9 => ?_, fun er ee => by cases ee⟩
    cases ex
    exact hQ v F9 H9 (e1.trans k9.fz) (k1.call0 k9) r9
/-- f(e, .., k = v, ..) -/
theorem ex_callN {m : δ → Option (Except Er ρ)} {gV : List V → List V → List V} {δ1 δ2 : Type} {g1 : Gp δ1} {g2 : Gp δ2} {tk : TA} {m1 : Option δ1} {m2 : Option δ2} {sh : δ1 → δ2 → δ} (h : EAG g1 ta σ F cs m1) (hk : EAG g2 tk σ F cs m2)
    (hs : ∀ H vs zs a b, g1.r H vs a → g2.r H zs b → g.r H (gV vs zs) (sh a b)) : EMX K L W rr (tCallNS g1.n g2.n (Xsp K L g rr m) gV (WE W) ta tk) σ F cs (m1.bind fun a => m2.bind fun b => m (sh a b)) := fun d q c F0 H0 e0 k0 Q hQ hE => by
  obtain ⟨a, q1, q⟩ := bind_some q
  obtain ⟨b, q2, q3⟩ := bind_some q
  refine h a q1 c F0 H0 e0 k0 _ fun vs F1 H1 e1 k1 x1 => hk b q2 c F1 H1 (e0.trans e1) k1 _ fun zs F2 H2 e2 k2 x2 => ⟨g1.len x1, g2.len x2, ?_⟩
  exact ⟨F2, _, d, k2.ex, hs _ _ _ _ _ (g1.up e2 x1) x2, q3, fun x ex v F9 H9 k9 r9 => hQ x ex v F9 H9 ((e1.trans e2).trans k9.fz) (k2.call0 k9) r9, fun er ee cls dd F9 H9 k9 r9 => hE er ee cls dd F9 H9 ((e1.trans e2).trans k9.fz) (k2.call0 k9) r9⟩
/-- o.m(e, ..) -/
theorem ex_meth {C : Addr} {mn : PySem.Str} {m : α × δ → Option (Except Er ρ)} {m0 : Option α} {ma : Option δ} (hO : ∀ F v a, ra.r F v a → ∃ p dx fs, v = .ref p ∧ F p = some (.ins C dx fs) ∧ fs.lookup mn = none) (h0 : EM ra te σ F cs m0) (h : EAG g ta σ F cs ma) :
    EMX K L W rr (tMethX C mn (Xsp K L (gpC ra g) rr m) (WE W) te ta) σ F cs (m0.bind fun a => ma.bind fun b => m (a, b)) := fun d q c F0 H0 e0 k0 Q hQ hE => by
  obtain ⟨a, q1, q⟩ := bind_some q
  obtain ⟨b, q2, q3⟩ := bind_some q
  refine h0 a q1 c F0 H0 e0 k0 _ fun v F1 H1 e1 k1 x1 => ?_
  obtain ⟨p, dx, fs, rfl, hp, hl⟩ := hO _ _ _ x1
  refine ⟨p, dx, fs, rfl, k1.ex _ _ hp, hl, h b q2 c F1 H1 (e0.trans e1) k1 _ fun vs F2 H2 e2 k2 x2 => ?_⟩
  exact ⟨F2, (a, b), d, k2.ex, ⟨_, vs, rfl, ra.up e2 x1, x2⟩, q3, fun x ex v F9 H9 k9 r9 => hQ x ex v F9 H9 ((e1.trans e2).trans k9.fz) (k2.call0 k9) r9, fun er ee cls dd F9 H9 k9 r9 => hE er ee cls dd F9 H9 ((e1.trans e2).trans k9.fz) (k2.call0 k9) r9⟩
theorem em_Xmeth {C : Addr} {mn : PySem.Str} {m : α × δ → Option (Except Er ρ)} {m0 : Option α} {ma : Option δ} (hO : ∀ F v a, ra.r F v a → ∃ p dx fs, v = .ref p ∧ F p = some (.ins C dx fs) ∧ fs.lookup mn = none) (h0 : EM ra te σ F cs m0) (h : EAG g ta σ F cs ma) :
    EM rr (tMeth C mn (Xsp K L (gpC ra g) rr m) [] E0 te ta) σ F cs ((m0.bind fun a => ma.bind fun b => m (a, b)).bind okG) := fun d q c F0 H0 e0 k0 Q hQ => by
  obtain ⟨y, q, q9⟩ := bind_some q
  obtain ⟨a, q1, q⟩ := bind_some q
  obtain ⟨b, q2, q3⟩ := bind_some q
  refine h0 a q1 c F0 H0 e0 k0 _ fun v F1 H1 e1 k1 x1 => ?_
  obtain ⟨p, dx, fs, rfl, hp, hl⟩ := hO _ _ _ x1
  refine ⟨p, dx, fs, rfl, k1.ex _ _ hp, hl, h b q2 c F1 H1 (e0.trans e1) k1 _ fun vs F2 H2 e2 k2 x2 => ?_⟩
  cases y with
  | error _ => cases q9
  | ok y =>
    cases q9
    refine ⟨F2, (a, b), _, k2.ex, ⟨_, vs, by rw [List.append_nil], ra.up e2 x1, x2⟩, q3, fun x ex v F9 H9 k9 r9 => ?_, fun er ee => by cases ee⟩
    cases ex
    exact hQ v F9 H9 ((e1.trans e2).trans k9.fz) (k2.call0 k9) r9
/-- the state of an object that is made -/
theorem Cov.back0 {p : Addr} {x : Cp} {F' H' : Hp} (h : Cov c F ((p, x) :: cs) H) (k : Cov ⟨H, F, [p]⟩ F' [] H') : Cov c F' cs H' := h.back (cs1 := [(p, x)]) (cs2 := []) k fun _ hy => by cases hy
/-- what stands behind the making of an object: cell p's content st, done -/
structure Mkd (C : Addr) {γ : Type} (cell : γ → Cp) (s0 : γ) (rr : Rp ρ) (fin : γ → Option ρ) : Prop where
  new : ∀ F dx, (cell s0).p F (.ins C dx [])
  done : ∀ F st y (p : Addr) o, (cell st).p F o → fin st = some y → F p = none → rr.r (upd F p o) (.ref p) y
theorem ex_make {C : Addr} {cell : γ → Cp} {s0 : γ} {fin : γ → Option ρ} {m : γ → δ → Option (Except Er (Unit × γ))} {ma : Option δ} (M : Mkd C cell s0 rr fin) (h : EAG g ta σ F cs ma) :
    EMX K L W rr (tMakeS C (Ysp K L cell g rNon m) (WE W) ta) σ F cs (ma.bind fun a => mkX fin (m s0 a)) := fun d q c F0 H0 e0 k0 Q hQ hE => by
  obtain ⟨a, q1, q⟩ := bind_some q
  unfold mkX at q
  obtain ⟨y, q2, q3⟩ := bind_some q
  refine h a q1 c F0 H0 e0 k0 _ fun vs F1 H1 e1 k1 x1 => ?_
  intro x dx hx hdx hne
  have f9 := k1.fnone hdx
  have k8 := k1.lay (o := .own x) hdx
  have hx3 : upd H1 dx (.own x) x = none := by rw [upd_ne (fun z => hne z.symm)]; exact hx
  have k9 := k8.own0 (o := .ins C dx []) (x := cell s0) hx3 (M.new _ dx)
  have g3 := Ex.new (o := HO.own x) f9
  refine ⟨_, x, vs, s0, a, y, rfl, (k9.keepN 1).base, g.up g3 x1, q2, fun st est v F9 H9 kx r9 => ⟨r9, ?_⟩, fun er ee cls dd F9 H9 kx r9 => ?_⟩
  · subst est
    have q3 : (fin st.2).map Except.ok = some d := q3
    have k5 := k9.call1 kx
    obtain ⟨f1, _, o, g4, g5⟩ := k5.head
    have hn : c.H0 x = none := k1.dom x hx
    have k6 := k5.freeze g4 hn
    cases z : fin st.2 with
    | none => rw [z] at q3; cases q3
    | some r =>
      rw [z] at q3
      cases q3
      exact hQ r rfl (.ref x) _ H9 (((e1.trans g3).trans kx.fz).trans (Ex.new f1)) k6 (M.done _ _ _ _ _ g5 z f1)
  · subst ee
    cases q3
    exact hE er rfl cls dd F9 H9 ((e1.trans g3).trans kx.fz) (k9.back0 kx) r9
theorem em_Xmake {C : Addr} {cell : γ → Cp} {s0 : γ} {fin : γ → Option ρ} {m : γ → δ → Option (Except Er (Unit × γ))} {ma : Option δ} (M : Mkd C cell s0 rr fin) (h : EAG g ta σ F cs ma) :
    EM rr (tMake C (Ysp K L cell g rNon m) [] E0 ta) σ F cs ((ma.bind fun a => mkX fin (m s0 a)).bind okG) := fun d q c F0 H0 e0 k0 Q hQ => by
  obtain ⟨r, q, q4⟩ := bind_some q
  obtain ⟨a, q1, q⟩ := bind_some q
  unfold mkX at q
  obtain ⟨y, q2, q⟩ := bind_some q
  obtain ⟨st, ey, q3⟩ : ∃ st, y = .ok st ∧ fin st.2 = some d := by
    cases y with
    | error _ => cases q; cases q4
    | ok y =>
      refine ⟨y, rfl, ?_⟩
      have q : (fin y.2).map Except.ok = some r := q
      cases z : fin y.2 with
      | none => rw [z] at q; cases q
      | some u => rw [z] at q; cases q; cases q4; rfl
  subst ey
  refine h a q1 c F0 H0 e0 k0 _ fun vs F1 H1 e1 k1 x1 => ?_
  intro x dx hx hdx hne
  have f9 := k1.fnone hdx
  have k8 := k1.lay (o := .own x) hdx
  have hx3 : upd H1 dx (.own x) x = none := by rw [upd_ne (fun z => hne z.symm)]; exact hx
  have k9 := k8.own0 (o := .ins C dx []) (x := cell s0) hx3 (M.new _ dx)
  have g3 := Ex.new (o := HO.own x) f9
  refine ⟨_, x, vs, s0, a, .ok st, by rw [List.append_nil], (k9.keepN 1).base, g.up g3 x1, q2, fun st2 est v F9 H9 kx r9 => ⟨r9, ?_⟩, fun er ee => by cases ee⟩
  cases est
  have k5 := k9.call1 kx
  obtain ⟨f1, _, o, g4, g5⟩ := k5.head
  have hn : c.H0 x = none := k1.dom x hx
  have k6 := k5.freeze g4 hn
  exact hQ (.ref x) _ H9 (((e1.trans g3).trans kx.fz).trans (Ex.new f1)) k6 (M.done _ _ _ _ _ g5 q3 f1)
/-- what is done with the value behind a raising expression -/
theorem ex_then {kk : V → Hp → VK → Prop} {gg : α → Option γ} {m : Option (Except Er α)} (h : EMX K L W ra te σ F cs m) (hk : ∀ a d, gg a = some d → ∀ c F1 H v, Ex F F1 → Cov c F1 cs H → ra.r F1 v a → ∀ Q : VK, (∀ u F2 H2, Ex F1 F2 → Cov c F2 cs H2 → rc.r F2 u d → Q u H2) → kk v H Q) :
    EMX K L W rc (fun σ H Q => te σ H fun v H1 => kk v H1 Q) σ F cs (m.bind (thenX gg)) := fun d q c F0 H0 e0 k0 Q hQ hE => by
  obtain ⟨y, q1, q2⟩ := bind_some q
  unfold thenX at q2
  refine h y q1 c F0 H0 e0 k0 _ (fun x ex v F2 H2 e2 k2 r2 => ?_) fun er ee cls dd F2 H2 e2 k2 r2 => ?_
  · subst ex
    have q2 : (gg x).map Except.ok = some d := q2
    cases z : gg x with
    | none => rw [z] at q2; cases q2
    | some u =>
      rw [z] at q2
      cases q2
      exact hk x u z c F2 H2 v (e0.trans e2) k2 r2 _ fun w F3 H3 e3 k3 r3 => hQ u rfl w F3 H3 (e2.trans e3) k3 r3
  · subst ee
    cases q2
    exact hE er rfl cls dd F2 H2 e2 k2 r2
/-! statements -/
variable {D : Ends} {tz : TS} {d : Except Er α} {m : Option (Except Er α)}
theorem a_setX {i : Nat} (h : EMX K L W ra te σ F cs m) (hm : m = some d) (k : Cov c F cs H) (ne : ∀ er, d = .error er → ∀ cls dd F2 H2, Ex F F2 → Cov c F2 cs H2 → rEr K L F2 cls dd er → W cls dd σ H2)
    (n : ∀ x, d = .ok x → ∀ v F2 H2, Ex F F2 → Cov c F2 cs H2 → ra.r F2 v x → D.nx (σ.set i (some v)) H2) : tAsg te (gName i) D σ H := h d hm c F H (Evl.Ex.refl _) k _ (fun x ex v F2 H2 e2 k2 r2 => n x ex v F2 H2 e2 k2 r2) ne
theorem q_setX {i : Nat} (h : EMX K L W ra te σ F cs m) (hm : m = some d) (k : Cov c F cs H) (ne : ∀ er, d = .error er → ∀ cls dd F2 H2, Ex F F2 → Cov c F2 cs H2 → rEr K L F2 cls dd er → W cls dd σ H2)
    (n : ∀ x, d = .ok x → ∀ v F2 H2, Ex F F2 → Cov c F2 cs H2 → ra.r F2 v x → tz D (σ.set i (some v)) H2) : tSeq (tAsg te (gName i)) tz D σ H := a_setX (D := { D with nx := tz D }) h hm k ne n
theorem a_dropX (h : EMX K L W ra te σ F cs m) (hm : m = some d) (k : Cov c F cs H) (ne : ∀ er, d = .error er → ∀ cls dd F2 H2, Ex F F2 → Cov c F2 cs H2 → rEr K L F2 cls dd er → W cls dd σ H2)
    (n : ∀ x, d = .ok x → ∀ F2 H2, Ex F F2 → Cov c F2 cs H2 → D.nx σ H2) : tDrop te D σ H := h d hm c F H (Evl.Ex.refl _) k _ (fun x ex v F2 H2 e2 k2 r2 => n x ex F2 H2 e2 k2) ne
theorem q_dropX (h : EMX K L W ra te σ F cs m) (hm : m = some d) (k : Cov c F cs H) (ne : ∀ er, d = .error er → ∀ cls dd F2 H2, Ex F F2 → Cov c F2 cs H2 → rEr K L F2 cls dd er → W cls dd σ H2)
    (n : ∀ x, d = .ok x → ∀ F2 H2, Ex F F2 → Cov c F2 cs H2 → tz D σ H2) : tSeq (tDrop te) tz D σ H := a_dropX (D := { D with nx := tz D }) h hm k ne n
theorem a_retX (h : EMX K L W ra te σ F cs m) (hm : m = some d) (k : Cov c F cs H) (ne : ∀ er, d = .error er → ∀ cls dd F2 H2, Ex F F2 → Cov c F2 cs H2 → rEr K L F2 cls dd er → W cls dd σ H2)
    (n : ∀ x, d = .ok x → ∀ v F2 H2, Ex F F2 → Cov c F2 cs H2 → ra.r F2 v x → D.rt v H2) : tRet te D σ H := h d hm c F H (Evl.Ex.refl _) k _ n ne
/-- raise C(e) -/
theorem a_raise {C : PySem.Str} {d : α} {m : Option α} {pay : α → Pay} (Er_ : ErrF K mg L) (hC : C ∈ L) (hp : ∀ F v x, ra.r F v x → (rPay K).r F v (pay x)) (h : EM ra te σ F cs m) (hm : m = some d) (k : Cov c F cs H)
    (ne : ∀ cls dd F2 H2, Ex F F2 → Cov c F2 cs H2 → rEr K L F2 cls dd ⟨C, pay d⟩ → W cls dd σ H2) : tMkO (ga K C) (spEI K L) [] (tCons te tNil) σ H fun cls dd H' => W cls dd σ H' := by
  refine h d hm c F H (Evl.Ex.refl _) k _ fun v F1 H1 e1 k1 x1 => ?_
  show (_ : List V).length ≤ 1000 ∧ _
  refine ⟨by show 1 ≤ 1000; decide, fun a ha => ⟨a, C, v, rfl, hC, upd_same, fun dx hdx nex => ⟨rfl, dx, [("value", v)], upd_same, ?_, ?_, ?_⟩⟩⟩
  · rw [upd_ne nex, upd_same]
  · have z := hdx
    rw [upd_ne nex] at z
    exact z
  · have hd1 : H1 dx = none := by
      have z := hdx
      rw [upd_ne nex] at z
      exact z
    have e : upd (del (upd (upd (upd H1 a (exo a (ga K C) none)) dx (exd dx [("value", v)])) a (exo a (ga K C) (some dx))) a) dx (.xd [("value", v)]) = upd H1 dx (.xd [("value", v)]) := by
      funext b
      by_cases hb : b = dx
      · subst hb; rw [upd_same, upd_same]
      · rw [upd_ne hb, upd_ne hb]
        by_cases hba : b = a
        · subst hba; rw [del_same, ha]
        · rw [del_ne hba, upd_ne hba, upd_ne hb, upd_ne hba]
    rw [e]
    have f1 := k1.fnone hd1
    have g1 := Ex.new (o := HO.xd [("value", v)]) f1
    exact ne _ _ _ _ (e1.trans g1) (k1.lay (o := HO.xd [("value", v)]) hd1) ⟨hC, dx, _, v, rfl, rfl, upd_same, rfl, (rPay K).up g1 (hp _ _ _ x1)⟩
end
end Mw

namespace Mw
open PySem L2
open Evl (Ex)
open He (ga ma)
section
variable {α0 α1 α2 α3 α4 α5 ρ : Type} {r0 : Rp α0} {r1 : Rp α1} {r2 : Rp α2} {r3 : Rp α3} {C : Addr} {n0 n1 n2 n3 : PySem.Str}
theorem mkd_O1 : Mkd C (cO1 C n0 r0) none (rO1 C n0 r0) finO1 := ⟨fun F dx => ⟨dx, [], rfl, rfl⟩, fun F st y p o h hf fp => by
  have q := finO1_some hf
  subst q
  obtain ⟨dy, vs, rfl, w0, hv, y0⟩ := h
  subst hv
  have e := Ex.new (o := HO.ins C dy [(n0, w0)]) fp
  exact ⟨p, dy, w0, rfl, upd_same, r0.up e y0⟩⟩
theorem mkd_O2 : Mkd C (cO2 C n0 n1 r0 r1) (none, none) (rO2 C n0 n1 r0 r1) finO2 := ⟨fun F dx => ⟨dx, [], rfl, rfl⟩, fun F st y p o h hf fp => by
  obtain ⟨_ | a, _ | b⟩ := st
  · cases hf
  · cases hf
  · cases hf
  cases hf
  obtain ⟨dy, vs, rfl, w0, w1, hv, y0, y1⟩ := h
  subst hv
  have e := Ex.new (o := HO.ins C dy [(n0, w0), (n1, w1)]) fp
  exact ⟨p, dy, w0, w1, rfl, upd_same, r0.up e y0, r1.up e y1⟩⟩
theorem mkd_O3 : Mkd C (cO3 C n0 n1 n2 r0 r1 r2) (none, none, none) (rO3 C n0 n1 n2 r0 r1 r2) finO3 := ⟨fun F dx => ⟨dx, [], rfl, rfl⟩, fun F st y p o h hf fp => by
  have q := finO3_some hf
  subst q
  obtain ⟨dy, vs, rfl, w0, w1, w2, hv, y0, y1, y2⟩ := h
  subst hv
  have e := Ex.new (o := HO.ins C dy [(n0, w0), (n1, w1), (n2, w2)]) fp
  exact ⟨p, dy, w0, w1, w2, rfl, upd_same, r0.up e y0, r1.up e y1, r2.up e y2⟩⟩
theorem mkd_O4 : Mkd C (cO4 C n0 n1 n2 n3 r0 r1 r2 r3) (none, none, none, none) (rO4 C n0 n1 n2 n3 r0 r1 r2 r3) finO4 := ⟨fun F dx => ⟨dx, [], rfl, rfl⟩, fun F st y p o h hf fp => by
  have q := finO4_some hf
  subst q
  obtain ⟨dy, vs, rfl, w0, w1, w2, w3, hv, y0, y1, y2, y3⟩ := h
  subst hv
  have e := Ex.new (o := HO.ins C dy [(n0, w0), (n1, w1), (n2, w2), (n3, w3)]) fp
  exact ⟨p, dy, w0, w1, w2, w3, rfl, upd_same, r0.up e y0, r1.up e y1, r2.up e y2, r3.up e y3⟩⟩
theorem nn_obj {ra : Rp ρ} (h : ObjP C ra) : NN ra := fun F v a r e => by
  obtain ⟨p, _, _, rfl, _⟩ := h F v a r
  cases e
theorem nn_non : ∀ (F : Hp) (v : V) (a : Unit), rNon.r F v a → v = .non := fun _ _ _ h => h
theorem gx1 {f : α0 → Option ρ} {m0 : Option α0} : ((m0.bind fun a => (some ()).bind fun b => some (a, b)).bind fun d => f d.1) = o1 f m0 := by
  cases m0 with
  | none => rfl
  | some a0 =>
  rfl
theorem gm1 {f : α0 → Option ρ} {m0 : Option α0} : (m0.bind fun a => (some ()).bind fun b => f a) = o1 f m0 := by
  cases m0 with
  | none => rfl
  | some a => rfl
theorem gx2 {f : α0 → α1 → Option ρ} {m0 : Option α0} {m1 : Option α1} : ((m0.bind fun a => (m1.bind fun a => (some ()).bind fun b => some (a, b)).bind fun b => some (a, b)).bind fun d => f d.1 d.2.1) = o2 f m0 m1 := by
  cases m0 with
  | none => rfl
  | some a0 =>
  cases m1 with
  | none => rfl
  | some a1 =>
  rfl
theorem gm2 {f : α0 → α1 → Option ρ} {m0 : Option α0} {m1 : Option α1} : (m0.bind fun a => (m1.bind fun a => (some ()).bind fun b => some (a, b)).bind fun b => f a b.1) = o2 f m0 m1 := by
  cases m0 with
  | none => rfl
  | some a0 =>
  cases m1 with
  | none => rfl
  | some a1 =>
  rfl
theorem gx3 {f : α0 → α1 → α2 → Option ρ} {m0 : Option α0} {m1 : Option α1} {m2 : Option α2} : ((m0.bind fun a => (m1.bind fun a => (m2.bind fun a => (some ()).bind fun b => some (a, b)).bind fun b => some (a, b)).bind fun b => some (a, b)).bind fun d => f d.1 d.2.1 d.2.2.1) = o3 f m0 m1 m2 := by
  cases m0 with
  | none => rfl
  | some a0 =>
  cases m1 with
  | none => rfl
  | some a1 =>
  cases m2 with
  | none => rfl
  | some a2 =>
  rfl
theorem gm3 {f : α0 → α1 → α2 → Option ρ} {m0 : Option α0} {m1 : Option α1} {m2 : Option α2} : (m0.bind fun a => (m1.bind fun a => (m2.bind fun a => (some ()).bind fun b => some (a, b)).bind fun b => some (a, b)).bind fun b => f a b.1 b.2.1) = o3 f m0 m1 m2 := by
  cases m0 with
  | none => rfl
  | some a0 =>
  cases m1 with
  | none => rfl
  | some a1 =>
  cases m2 with
  | none => rfl
  | some a2 =>
  rfl
theorem gx4 {f : α0 → α1 → α2 → α3 → Option ρ} {m0 : Option α0} {m1 : Option α1} {m2 : Option α2} {m3 : Option α3} : ((m0.bind fun a => (m1.bind fun a => (m2.bind fun a => (m3.bind fun a => (some ()).bind fun b => some (a, b)).bind fun b => some (a, b)).bind fun b => some (a, b)).bind fun b => some (a, b)).bind fun d => f d.1 d.2.1 d.2.2.1 d.2.2.2.1) = o4 f m0 m1 m2 m3 := by
  cases m0 with
  | none => rfl
  | some a0 =>
  cases m1 with
  | none => rfl
  | some a1 =>
  cases m2 with
  | none => rfl
  | some a2 =>
  cases m3 with
  | none => rfl
  | some a3 =>
  rfl
theorem gm4 {f : α0 → α1 → α2 → α3 → Option ρ} {m0 : Option α0} {m1 : Option α1} {m2 : Option α2} {m3 : Option α3} : (m0.bind fun a => (m1.bind fun a => (m2.bind fun a => (m3.bind fun a => (some ()).bind fun b => some (a, b)).bind fun b => some (a, b)).bind fun b => some (a, b)).bind fun b => f a b.1 b.2.1 b.2.2.1) = o4 f m0 m1 m2 m3 := by
  cases m0 with
  | none => rfl
  | some a0 =>
  cases m1 with
  | none => rfl
  | some a1 =>
  cases m2 with
  | none => rfl
  | some a2 =>
  cases m3 with
  | none => rfl
  | some a3 =>
  rfl
theorem gx5 {f : α0 → α1 → α2 → α3 → α4 → Option ρ} {m0 : Option α0} {m1 : Option α1} {m2 : Option α2} {m3 : Option α3} {m4 : Option α4} : ((m0.bind fun a => (m1.bind fun a => (m2.bind fun a => (m3.bind fun a => (m4.bind fun a => (some ()).bind fun b => some (a, b)).bind fun b => some (a, b)).bind fun b => some (a, b)).bind fun b => some (a, b)).bind fun b => some (a, b)).bind fun d => f d.1 d.2.1 d.2.2.1 d.2.2.2.1 d.2.2.2.2.1) = o5 f m0 m1 m2 m3 m4 := by
  cases m0 with
  | none => rfl
  | some a0 =>
  cases m1 with
  | none => rfl
  | some a1 =>
  cases m2 with
  | none => rfl
  | some a2 =>
  cases m3 with
  | none => rfl
  | some a3 =>
  cases m4 with
  | none => rfl
  | some a4 =>
  rfl
theorem gm5 {f : α0 → α1 → α2 → α3 → α4 → Option ρ} {m0 : Option α0} {m1 : Option α1} {m2 : Option α2} {m3 : Option α3} {m4 : Option α4} : (m0.bind fun a => (m1.bind fun a => (m2.bind fun a => (m3.bind fun a => (m4.bind fun a => (some ()).bind fun b => some (a, b)).bind fun b => some (a, b)).bind fun b => some (a, b)).bind fun b => some (a, b)).bind fun b => f a b.1 b.2.1 b.2.2.1 b.2.2.2.1) = o5 f m0 m1 m2 m3 m4 := by
  cases m0 with
  | none => rfl
  | some a0 =>
  cases m1 with
  | none => rfl
  | some a1 =>
  cases m2 with
  | none => rfl
  | some a2 =>
  cases m3 with
  | none => rfl
  | some a3 =>
  cases m4 with
  | none => rfl
  | some a4 =>
  rfl
theorem gx6 {f : α0 → α1 → α2 → α3 → α4 → α5 → Option ρ} {m0 : Option α0} {m1 : Option α1} {m2 : Option α2} {m3 : Option α3} {m4 : Option α4} {m5 : Option α5} : ((m0.bind fun a => (m1.bind fun a => (m2.bind fun a => (m3.bind fun a => (m4.bind fun a => (m5.bind fun a => (some ()).bind fun b => some (a, b)).bind fun b => some (a, b)).bind fun b => some (a, b)).bind fun b => some (a, b)).bind fun b => some (a, b)).bind fun b => some (a, b)).bind fun d => f d.1 d.2.1 d.2.2.1 d.2.2.2.1 d.2.2.2.2.1 d.2.2.2.2.2.1) = o6 f m0 m1 m2 m3 m4 m5 := by
  cases m0 with
  | none => rfl
  | some a0 =>
  cases m1 with
  | none => rfl
  | some a1 =>
  cases m2 with
  | none => rfl
  | some a2 =>
  cases m3 with
  | none => rfl
  | some a3 =>
  cases m4 with
  | none => rfl
  | some a4 =>
  cases m5 with
  | none => rfl
  | some a5 =>
  rfl
theorem gm6 {f : α0 → α1 → α2 → α3 → α4 → α5 → Option ρ} {m0 : Option α0} {m1 : Option α1} {m2 : Option α2} {m3 : Option α3} {m4 : Option α4} {m5 : Option α5} : (m0.bind fun a => (m1.bind fun a => (m2.bind fun a => (m3.bind fun a => (m4.bind fun a => (m5.bind fun a => (some ()).bind fun b => some (a, b)).bind fun b => some (a, b)).bind fun b => some (a, b)).bind fun b => some (a, b)).bind fun b => some (a, b)).bind fun b => f a b.1 b.2.1 b.2.2.1 b.2.2.2.1 b.2.2.2.2.1) = o6 f m0 m1 m2 m3 m4 m5 := by
  cases m0 with
  | none => rfl
  | some a0 =>
  cases m1 with
  | none => rfl
  | some a1 =>
  cases m2 with
  | none => rfl
  | some a2 =>
  cases m3 with
  | none => rfl
  | some a3 =>
  cases m4 with
  | none => rfl
  | some a4 =>
  cases m5 with
  | none => rfl
  | some a5 =>
  rfl
end
section
variable {α β γ δ ρ : Type} {ra : Rp α} {rb : Rp β} {σ : L2.St} {F H : Hp} {cs : Cs} {te : TE} {K : PySem.W.Frag} {L : List PySem.Str} {W : WX}
theorem ex_opt {m : Option (Except Er α)} (n : NN ra) (h : EMX K L W ra te σ F cs m) : EMX K L W (rOpt ra) te σ F cs (m.map fun r => r.map some) := fun d q c F1 H e k Q hQ hE => by
  cases m with
  | none => cases q
  | some y =>
    cases q
    refine h y rfl c F1 H e k Q (fun x ex v F2 H2 e2 k2 r2 => ?_) fun er ee cls dd F2 H2 e2 k2 r2 => ?_
    · subst ex
      exact hQ (some x) rfl v F2 H2 e2 k2 ⟨n _ _ _ r2, r2⟩
    · subst ee
      exact hE er rfl cls dd F2 H2 e2 k2 r2
theorem py_int : ∀ (F : Hp) v x, rInt.r F v x → (rPay K).r F v (.int x) := fun _ _ _ r => r
theorem py_tup : ∀ (F : Hp) v x, (rTup K rInt).r F v x → (rPay K).r F v (.tup x) := fun _ _ _ r => r
theorem py_str : ∀ (F : Hp) v x, rStr.r F v x → (rPay K).r F v (.str x) := fun _ _ _ r => r
theorem py_rows : ∀ (F : Hp) v x, (rLst (rLst rInt)).r F v x → (rPay K).r F v (.rows x) := fun _ _ _ r => r
end
end Mw
namespace L2
open PySem PySem.Spec PyProof.Rows
theorem pe_callN0S {X : Cx} {CX : CXT} {k : Nat} {f : Addr} {fd : FuncData} {ps ks : List Str} {sp : Sp} {E : St → XK} {x : Str} {p pos : Pos} {kws : List Keyword} {tk : TA} {g : List Value → List Value → List Value} {gV : List V → List V → List V} (F : FnOk X.prog X.w X.K X.mg X.base CX k f fd ps sp) (hr : Room k X.A) (hg : Gl X x) (hm : X.mg x = some (.ref f)) (hk : PySem.W.keepIn X.K (.ref f) = true) (hb : KBn X.K fd ps 0 ks g gV) (hx : ∀ σ, PassesAt CX X σ (E σ))
    (hkw : PK X kws tk) (hall : (backToKw pos (keywordEach kws X.env)).all (·.1.isSome) = true := by rfl) (hks : (backToKw pos (keywordEach kws X.env)).filterMap (·.1) = ks := by rfl)
    (hdb : (x == ("__debug__" : Str)) = false := by decide) (hpl : ((backTo pos (starEach [] X.env)).any (·.1) || (backToKw pos (keywordEach kws X.env)).any (·.1.isNone)) = false := by rfl) :
    PE X (.Call (.Name x p) [] kws pos) (tCallNS 0 ks.length sp gV E tNil tk) := by
  refine ⟨fun pins s σ H Q I h => ?_⟩
  refine wpAny_Call_Name_kw (ld_glob I hg hm ?_ hdb)
  refine PySem.W.callWith_KW0 (h₀ := X.base) I.ok.mod.kin hk hall ?_ hpl
  refine thn (hkw.run pos pins s σ H _ I h) fun ws s2 ⟨zs, H2, I2, rz, l1, l2, q2⟩ => ⟨I2.kIn, ?_⟩
  rw [hks]
  exact run_fnkS (us := []) (vs := []) F hr hb (hx σ) I2 .nil rz rfl l2 q2
end L2

namespace Mw
open PySem L2
open Evl (Ex)
open He (ga ma)
section
variable {α β γ δ ρ : Type} {ra : Rp α} {rb : Rp β} {rr : Rp ρ} {g : Gp δ} {σ : L2.St} {F H : Hp} {cs : Cs} {ta : TA} {te : TE} {K : PySem.W.Frag} {L : List PySem.Str} {W : WX} {c : Act}
theorem em_XcallN {m : δ → Option (Except Er ρ)} {gV : List V → List V → List V} {δ1 δ2 : Type} {g1 : Gp δ1} {g2 : Gp δ2} {tk : TA} {m1 : Option δ1} {m2 : Option δ2} {sh : δ1 → δ2 → δ} (h : EAG g1 ta σ F cs m1) (hk : EAG g2 tk σ F cs m2)
    (hs : ∀ H vs zs a b, g1.r H vs a → g2.r H zs b → g.r H (gV vs zs) (sh a b)) : EM rr (tCallN g1.n g2.n (Xsp K L g rr m) gV E0 ta tk) σ F cs ((m1.bind fun a => m2.bind fun b => m (sh a b)).bind okG) := fun d q c F0 H0 e0 k0 Q hQ => by
  obtain ⟨y, q, q9⟩ := bind_some q
  obtain ⟨a, q1, q⟩ := bind_some q
  obtain ⟨b, q2, q3⟩ := bind_some q
  cases y with
  | error _ => cases q9
  | ok y =>
    cases q9
    refine h a q1 c F0 H0 e0 k0 _ fun vs F1 H1 e1 k1 x1 => hk b q2 c F1 H1 (e0.trans e1) k1 _ fun zs F2 H2 e2 k2 x2 => ⟨g1.len x1, g2.len x2, ?_⟩
    refine ⟨F2, _, _, k2.ex, hs _ _ _ _ _ (g1.up e2 x1) x2, q3, fun x ex v F9 H9 k9 r9 => ?_, fun er ee => by cases ee⟩
    cases ex
    exact hQ v F9 H9 ((e1.trans e2).trans k9.fz) (k2.call0 k9) r9
theorem ex_p2_0 {m : Option (Except Er (α × β))} (h : EMX K L W (rP2 K ra rb) te σ F cs m) : EMX K L W ra (tOp (rIxT K) te (tC (.int 0))) σ F cs (m.bind (thenX fun z => some z.1)) :=
  ex_then (kk := fun v H Q => rIxT K v (.int 0) H Q) h fun a d q c F1 H v e k r Q hQ => by
    cases q
    obtain ⟨p, v1, v2, rfl, h1, h2, h3⟩ := r
    exact ⟨p, [v1, v2], 0, v1, rfl, rfl, ext_ k.ex h1, rfl, hQ _ F1 H (Evl.Ex.refl _) k h2⟩
theorem ex_p2_1 {m : Option (Except Er (α × β))} (h : EMX K L W (rP2 K ra rb) te σ F cs m) : EMX K L W rb (tOp (rIxT K) te (tC (.int 1))) σ F cs (m.bind (thenX fun z => some z.2)) :=
  ex_then (kk := fun v H Q => rIxT K v (.int 1) H Q) h fun a d q c F1 H v e k r Q hQ => by
    cases q
    obtain ⟨p, v1, v2, rfl, h1, h2, h3⟩ := r
    exact ⟨p, [v1, v2], 1, v2, rfl, rfl, ext_ k.ex h1, rfl, hQ _ F1 H (Evl.Ex.refl _) k h3⟩
/-- the caught exception is tracked, frozen -/
theorem Cov.caught {er : Er} {a dd : Addr} {fs : List (PySem.Str × V)} {pv : V} (k : Cov c F cs H) (ha : H a = none) (h0 : er.cls ∈ L) (h1 : F dd = some (.xd fs)) (h2 : fs.lookup ("value" : PySem.Str) = some pv) (h3 : (rPay K).r F pv er.pay) :
    ∃ F2, Ex F F2 ∧ Cov c F2 cs (upd H a (exT a (.ref (ga K er.cls)) (some dd))) ∧ (rExc K L).r F2 (.ref a) er := by
  have e := Ex.new (o := exT a (.ref (ga K er.cls)) (some dd)) (k.fnone ha)
  exact ⟨_, e, k.lay ha, h0, a, dd, fs, pv, rfl, upd_same, e _ _ h1, h2, (rPay K).up e h3⟩
end
end Mw

namespace Mw
open PySem L2
open Evl (Ex)
theorem em_XmethN {α δ ρ : Type} {ra : Rp α} {rr : Rp ρ} {g : Gp δ} {σ : L2.St} {F : Hp} {cs : Cs} {tk : TA} {te : TE} {K : PySem.W.Frag} {L : List PySem.Str} {C : Addr} {mn : PySem.Str} {m : α × δ → Option (Except Er ρ)} {m0 : Option α} {ma : Option δ} (hO : ∀ F v a, ra.r F v a → ∃ p dx fs, v = .ref p ∧ F p = some (.ins C dx fs) ∧ fs.lookup mn = none) (h0 : EM ra te σ F cs m0) (h : EAG g tk σ F cs ma) :
    EM rr (tMethN C mn g.n (Xsp K L (gpC ra g) rr m) (fun vs zs => vs ++ zs) E0 te tk) σ F cs ((m0.bind fun a => ma.bind fun b => m (a, b)).bind okG) := fun d q c F0 H0 e0 k0 Q hQ => by
  obtain ⟨y, q, q9⟩ := bind_some q
  obtain ⟨a, q1, q⟩ := bind_some q
  obtain ⟨b, q2, q3⟩ := bind_some q
  refine h0 a q1 c F0 H0 e0 k0 _ fun v F1 H1 e1 k1 x1 => ?_
  obtain ⟨p, dx, fs, rfl, hp, hl⟩ := hO _ _ _ x1
  refine ⟨p, dx, fs, rfl, k1.ex _ _ hp, hl, h b q2 c F1 H1 (e0.trans e1) k1 _ fun vs F2 H2 e2 k2 x2 => ⟨g.len x2, ?_⟩⟩
  cases y with
  | error _ => cases q9
  | ok y =>
    cases q9
    refine ⟨F2, (a, b), _, k2.ex, ⟨_, vs, rfl, ra.up e2 x1, x2⟩, q3, fun x ex v F9 H9 k9 r9 => ?_, fun er ee => by cases ee⟩
    cases ex
    exact hQ v F9 H9 ((e1.trans e2).trans k9.fz) (k2.call0 k9) r9
end Mw
namespace L2
open PySem PySem.Spec PyProof.Rows
section
variable {X : Cx} {CX : CXT} {k n : Nat} {f C : Addr} {fd : FuncData} {ps ks : List Str} {sp : Sp} {E : St → XK} {x : Str} {p pos : Pos} {e : Expr} {es : List Expr} {kws : List Keyword} {t tk : TA} {g : List Value → List Value → List Value} {gV : List V → List V → List V}
/-- C(k = v, ..) -/
def tMakeNS (C : Addr) (m : Nat) (sp : Sp) (gV : List V → List V → List V) (E : St → XK) (tk : TA) : TE := fun σ H Q => tk σ H fun zs H2 => zs.length = m ∧
  ∀ x dx, H2 x = none → H2 dx = none → dx ≠ x → sp (gV [.ref x] zs) (upd (upd H2 dx (.own x)) x (.ins C dx [])) (fun v H3 => v = .non ∧ Q (.ref x) H3) (E σ)
theorem run_makeNS {pins : List (Addr × Obj)} {σ : St} {H : Hp} {s : Shared} {Q : VK} {ws : List Value} {zs : List V} (M : Mk X.K C f) (F : FnOk X.prog X.w X.K X.mg X.base CX k f fd ps sp) (hr : Room (k + 1) X.A) (hb : KBn X.K fd ps 1 ks g gV)
    (hx : PassesAt CX X σ (E σ)) (I : Inv X pins σ H s) (rz : Vals zs ws) (l2 : zs.length = ks.length)
    (h : ∀ x dx, H x = none → H dx = none → dx ≠ x → sp (gV [.ref x] zs) (upd (upd H dx (.own x)) x (.ins C dx [])) (fun v H2 => v = .non ∧ Q (.ref x) H2) (E σ)) :
    wpAny (model X.prog X.w) X.A (call (.ref C) [] (ks.zip ws)) (EP X pins σ Q) X.xe s := by
  have hq := h (s.heap.objs.size + 1) s.heap.objs.size (I.hok.fresh (Nat.le_succ _)) (I.hok.fresh (Nat.le_refl _)) (Nat.ne_of_lt (Nat.lt_succ_self _))
  have I2 := Inv.made (C := C) I
  have r1 : Vals [V.ref (s.heap.objs.size + 1)] [Value.ref (s.heap.objs.size + 1)] := .cons rfl .nil
  have r2 := hb.rel r1 rz
  have e2 : ws.length = ks.length := rz.length.symm.trans l2
  refine wpAny_call (make_map (f := f) I.kIn M.makes M.init (beq_iff_eq.mp M.fn) (codeAny_mono (F.run _ X.stack _ _ ⟨[Value.ref (s.heap.objs.size + 1)], ks.zip ws⟩ (g [Value.ref (s.heap.objs.size + 1)] ws) _ _ (E σ) (hr.make C [] (ks.zip ws))
    (I2.env0.make C [] (ks.zip ws)) (hb.to _ [Value.ref (s.heap.objs.size + 1)] ws I2.kIn rfl e2) r2 hq) fun r s' hq' => ?_))
  cases r with
  | error e => exact hx pins _ _ e s' I2 hq'
  | ok fl =>
    cases fl with
    | ret u =>
      obtain ⟨v, H', I3, rv, ev, q3⟩ := I2.after hq'
      subst ev
      exact ⟨rv, ⟨V.ref (s.heap.objs.size + 1), H', I3, rfl, q3⟩⟩
    | next => exact False.elim hq'
    | brk => exact False.elim hq'
    | cont => exact False.elim hq'
theorem pe_makeNS (M : Mk X.K C f) (F : FnOk X.prog X.w X.K X.mg X.base CX k f fd ps sp) (hr : Room (k + 1) X.A) (hg : Gl X x) (hm : X.mg x = some (.ref C)) (hb : KBn X.K fd ps 1 ks g gV) (hx : ∀ σ, PassesAt CX X σ (E σ))
    (hkw : PK X kws tk) (hall : (backToKw pos (keywordEach kws X.env)).all (·.1.isSome) = true := by rfl) (hks : (backToKw pos (keywordEach kws X.env)).filterMap (·.1) = ks := by rfl)
    (hdb : (x == ("__debug__" : Str)) = false := by decide)
    (hpl : ((backTo pos (starEach [] X.env)).any (·.1) || (backToKw pos (keywordEach kws X.env)).any (·.1.isNone)) = false := by rfl) :
    PE X (.Call (.Name x p) [] kws pos) (tMakeNS C ks.length sp gV E tk) := by
  refine ⟨fun pins s σ H Q I h => ?_⟩
  refine wpAny_Call_Name_kw (ld_glob I hg hm ?_ hdb)
  refine PySem.W.callWith_KW0 (h₀ := X.base) I.ok.mod.kin M.kp hall ?_ hpl
  refine thn (hkw.run pos pins s σ H _ I h) fun ws s2 ⟨zs, H2, I2, rz, l2, q2⟩ => ⟨I2.kIn, ?_⟩
  rw [hks]
  exact run_makeNS M F hr hb (hx σ) I2 rz l2 q2
end
end L2
namespace Mw
open PySem L2
open Evl (Ex)
section
variable {α β γ δ ρ : Type} {ra : Rp α} {rr : Rp ρ} {g : Gp δ} {σ : L2.St} {F H : Hp} {cs : Cs} {tk : TA} {K : PySem.W.Frag} {L : List PySem.Str} {W : WX}
theorem ex_makeN {C : Addr} {cell : γ → Cp} {s0 : γ} {fin : γ → Option ρ} {m : γ → δ → Option (Except Er (Unit × γ))} {gV : List V → List V → List V} {δ2 : Type} {g2 : Gp δ2} {m2 : Option δ2} {sh : δ2 → δ} (M : Mkd C cell s0 rr fin) (hk : EAG g2 tk σ F cs m2)
    (hs : ∀ H x zs b, g2.r H zs b → ∃ ws, gV [.ref x] zs = .ref x :: ws ∧ g.r H ws (sh b)) :
    EMX K L W rr (tMakeNS C g2.n (Ysp K L cell g rNon m) gV (WE W) tk) σ F cs (m2.bind fun a => mkX fin (m s0 (sh a))) := fun d q c F0 H0 e0 k0 Q hQ hE => by
  obtain ⟨a, q1, q⟩ := bind_some q
  unfold mkX at q
  obtain ⟨y, q2, q3⟩ := bind_some q
  refine hk a q1 c F0 H0 e0 k0 _ fun vs F1 H1 e1 k1 x1 => ⟨g2.len x1, ?_⟩
  intro x dx hx hdx hne
  have f9 := k1.fnone hdx
  have k8 := k1.lay (o := .own x) hdx
  have hx3 : upd H1 dx (.own x) x = none := by rw [upd_ne (fun z => hne z.symm)]; exact hx
  have k9 := k8.own0 (o := .ins C dx []) (x := cell s0) hx3 (M.new _ dx)
  have g3 := Ex.new (o := HO.own x) f9
  obtain ⟨ws, ew, xw⟩ := hs _ x vs a x1
  rw [ew]
  refine ⟨_, x, ws, s0, sh a, y, rfl, (k9.keepN 1).base, g.up g3 xw, q2, fun st est v F9 H9 kx r9 => ⟨r9, ?_⟩, fun er ee cls dd F9 H9 kx r9 => ?_⟩
  · subst est
    have q3 : (fin st.2).map Except.ok = some d := q3
    have k5 := k9.call1 kx
    obtain ⟨f1, _, o, g4, g5⟩ := k5.head
    have hn : c.H0 x = none := k1.dom x hx
    have k6 := k5.freeze g4 hn
    cases z : fin st.2 with
    | none => rw [z] at q3; cases q3
    | some r =>
      rw [z] at q3
      cases q3
      exact hQ r rfl (.ref x) _ H9 (((e1.trans g3).trans kx.fz).trans (Ex.new f1)) k6 (M.done _ _ _ _ _ g5 z f1)
  · subst ee
    cases q3
    exact hE er rfl cls dd F9 H9 ((e1.trans g3).trans kx.fz) (k9.back0 kx) r9
end
end Mw

set_option maxHeartbeats 2000000
/-! tuples of four, five, six (printed by tups.py) -/
namespace Mw
open PySem L2
open Evl (Ex)
section
variable {α0 α1 α2 α3 δ : Type} {r0 : Rp α0} {r1 : Rp α1} {r2 : Rp α2} {r3 : Rp α3} {σ : L2.St} {F H : Hp} {cs : Cs} {K : PySem.W.Frag} {te t0 t1 t2 t3 : TE} {tz : TS} {D : Ends} {c : Act}
def rP4 (_ : PySem.W.Frag) (r0 : Rp α0) (r1 : Rp α1) (r2 : Rp α2) (r3 : Rp α3) : Rp (α0 × α1 × α2 × α3) := ⟨fun H v d => ∃ a v0 v1 v2 v3, v = .ref a ∧ H a = some (.tup [v0, v1, v2, v3]) ∧ r0.r H v0 d.1 ∧ r1.r H v1 d.2.1 ∧ r2.r H v2 d.2.2.1 ∧ r3.r H v3 d.2.2.2,
  fun e ⟨a, v0, v1, v2, v3, h1, h2, g0, g1, g2, g3⟩ => ⟨a, v0, v1, v2, v3, h1, e _ _ h2, r0.up e g0, r1.up e g1, r2.up e g2, r3.up e g3⟩⟩
def oP4 (m0 : Option α0) (m1 : Option α1) (m2 : Option α2) (m3 : Option α3) : Option (α0 × α1 × α2 × α3) := m0.bind fun a0 => m1.bind fun a1 => m2.bind fun a2 => m3.bind fun a3 => some (a0, a1, a2, a3)
theorem oP4_some {m0 : Option α0} {m1 : Option α1} {m2 : Option α2} {m3 : Option α3} {d : α0 × α1 × α2 × α3} (h : oP4 m0 m1 m2 m3 = some d) : m0 = some d.1 ∧ m1 = some d.2.1 ∧ m2 = some d.2.2.1 ∧ m3 = some d.2.2.2 := by
  obtain ⟨a0, q0, h⟩ := bind_some h
  obtain ⟨a1, q1, h⟩ := bind_some h
  obtain ⟨a2, q2, h⟩ := bind_some h
  obtain ⟨a3, q3, h⟩ := bind_some h
  cases h
  exact ⟨q0, q1, q2, q3⟩
theorem em_tup4 {m0 : Option α0} {m1 : Option α1} {m2 : Option α2} {m3 : Option α3} (h0 : EM r0 t0 σ F cs m0) (h1 : EM r1 t1 σ F cs m1) (h2 : EM r2 t2 σ F cs m2) (h3 : EM r3 t3 σ F cs m3) : EM (rP4 K r0 r1 r2 r3) (tTup (tCons t0 (tCons t1 (tCons t2 (tCons t3 tNil))))) σ F cs (oP4 m0 m1 m2 m3) := fun d q c F0 H0 f_0 k_0 Q hQ => by
  obtain ⟨q0, q1, q2, q3⟩ := oP4_some q
  refine h0 _ q0 c F0 H0 f_0 k_0 _ fun v0 F_0 H_0 e0 k0 x0 => ?_
  have f0 := f_0.trans e0
  refine h1 _ q1 c F_0 H_0 f0 k0 _ fun v1 F_1 H_1 e1 k1 x1 => ?_
  have f1 := f0.trans e1
  refine h2 _ q2 c F_1 H_1 f1 k1 _ fun v2 F_2 H_2 e2 k2 x2 => ?_
  have f2 := f1.trans e2
  refine h3 _ q3 c F_2 H_2 f2 k2 _ fun v3 F_3 H_3 e3 k3 x3 => ?_
  have f3 := f2.trans e3
  refine ⟨by show 4 ≤ sizeLine; decide, fun p hp => ?_⟩
  have fp := k3.fnone hp
  have ep := Ex.new (o := HO.tup [v0, v1, v2, v3]) fp
  exact hQ (.ref p) _ _ ((((e0.trans e1).trans e2).trans e3).trans ep) (k3.lay hp) ⟨p, v0, v1, v2, v3, rfl, upd_same, r0.up (((e1.trans e2).trans e3).trans ep) x0, r1.up ((e2.trans e3).trans ep) x1, r2.up (e3.trans ep) x2, r3.up ep x3⟩
def sT4 (m0 : Option (α0 × δ)) (m1 : δ → Option (α1 × δ)) (m2 : δ → Option (α2 × δ)) (m3 : δ → Option (α3 × δ)) : Option ((α0 × α1 × α2 × α3) × δ) := sC (m0) fun a0 s0 => sC (m1 s0) fun a1 s1 => sC (m2 s1) fun a2 s2 => sC (m3 s2) fun a3 s3 => some ((a0, a1, a2, a3), s3)
theorem sm_tup4 {cs : δ → Cs} {s : δ} {m0 : Option (α0 × δ)} {m1 : δ → Option (α1 × δ)} {m2 : δ → Option (α2 × δ)} {m3 : δ → Option (α3 × δ)} (h0 : SM r0 t0 σ F (cs s) m0 cs) (h1 : ∀ s, SM r1 t1 σ F (cs s) (m1 s) cs) (h2 : ∀ s, SM r2 t2 σ F (cs s) (m2 s) cs) (h3 : ∀ s, SM r3 t3 σ F (cs s) (m3 s) cs) : SM (rP4 K r0 r1 r2 r3) (tTup (tCons t0 (tCons t1 (tCons t2 (tCons t3 tNil))))) σ F (cs s) (sT4 m0 m1 m2 m3) cs := fun d g q c F0 H0 f_0 k_0 Q hQ => by
  unfold sT4 at q
  obtain ⟨a0, g0, q0, q⟩ := sC_some q
  obtain ⟨a1, g1, q1, q⟩ := sC_some q
  obtain ⟨a2, g2, q2, q⟩ := sC_some q
  obtain ⟨a3, g3, q3, q⟩ := sC_some q
  cases q
  refine h0 a0 _ q0 c F0 H0 f_0 k_0 _ fun v0 F_0 H_0 e0 k0 x0 => ?_
  have f0 := f_0.trans e0
  refine h1 g0 a1 _ q1 c F_0 H_0 f0 k0 _ fun v1 F_1 H_1 e1 k1 x1 => ?_
  have f1 := f0.trans e1
  refine h2 g1 a2 _ q2 c F_1 H_1 f1 k1 _ fun v2 F_2 H_2 e2 k2 x2 => ?_
  have f2 := f1.trans e2
  refine h3 g2 a3 _ q3 c F_2 H_2 f2 k2 _ fun v3 F_3 H_3 e3 k3 x3 => ?_
  have f3 := f2.trans e3
  refine ⟨by show 4 ≤ sizeLine; decide, fun p hp => ?_⟩
  have fp := k3.fnone hp
  have ep := Ex.new (o := HO.tup [v0, v1, v2, v3]) fp
  exact hQ (.ref p) _ _ ((((e0.trans e1).trans e2).trans e3).trans ep) (k3.lay hp) ⟨p, v0, v1, v2, v3, rfl, upd_same, r0.up (((e1.trans e2).trans e3).trans ep) x0, r1.up ((e2.trans e3).trans ep) x1, r2.up (e3.trans ep) x2, r3.up ep x3⟩
theorem a_unp4 {i0 i1 i2 i3 : Nat} {d : α0 × α1 × α2 × α3} {m : Option (α0 × α1 × α2 × α3)} (h : EM (rP4 K r0 r1 r2 r3) te σ F cs m) (hm : m = some d) (k : Cov c F cs H) (n : ∀ v0 v1 v2 v3 F2 H2, Ex F F2 → Cov c F2 cs H2 → r0.r F2 v0 d.1 → r1.r F2 v1 d.2.1 → r2.r F2 v2 d.2.2.1 → r3.r F2 v3 d.2.2.2 → D.nx ((((σ.set i0 (some v0)).set i1 (some v1)).set i2 (some v2)).set i3 (some v3)) H2) : tAsg te (gTup K 4 (gCons (gName i0) (gCons (gName i1) (gCons (gName i2) (gCons (gName i3) gNil))))) D σ H :=
  h d hm c F H (Evl.Ex.refl _) k _ fun v F2 H2 e2 k2 r2 => by
    obtain ⟨a, w0, w1, w2, w3, rfl, h1, g0, g1, g2, g3⟩ := r2
    exact ⟨a, [w0, w1, w2, w3], rfl, ext_ k2.ex h1, rfl, w0, [w1, w2, w3], rfl, w1, [w2, w3], rfl, w2, [w3], rfl, w3, [], rfl, rfl, n w0 w1 w2 w3 F2 H2 e2 k2 g0 g1 g2 g3⟩
theorem q_unp4 {i0 i1 i2 i3 : Nat} {d : α0 × α1 × α2 × α3} {m : Option (α0 × α1 × α2 × α3)} (h : EM (rP4 K r0 r1 r2 r3) te σ F cs m) (hm : m = some d) (k : Cov c F cs H) (n : ∀ v0 v1 v2 v3 F2 H2, Ex F F2 → Cov c F2 cs H2 → r0.r F2 v0 d.1 → r1.r F2 v1 d.2.1 → r2.r F2 v2 d.2.2.1 → r3.r F2 v3 d.2.2.2 → tz D ((((σ.set i0 (some v0)).set i1 (some v1)).set i2 (some v2)).set i3 (some v3)) H2) : tSeq (tAsg te (gTup K 4 (gCons (gName i0) (gCons (gName i1) (gCons (gName i2) (gCons (gName i3) gNil)))))) tz D σ H :=
  a_unp4 (D := { D with nx := tz D }) h hm k n
theorem a_unp4S {cs' : δ → Cs} {g : δ} {i0 i1 i2 i3 : Nat} {d : α0 × α1 × α2 × α3} {m : Option ((α0 × α1 × α2 × α3) × δ)} (h : SM (rP4 K r0 r1 r2 r3) te σ F cs m cs') (hm : m = some (d, g)) (k : Cov c F cs H) (n : ∀ v0 v1 v2 v3 F2 H2, Ex F F2 → Cov c F2 (cs' g) H2 → r0.r F2 v0 d.1 → r1.r F2 v1 d.2.1 → r2.r F2 v2 d.2.2.1 → r3.r F2 v3 d.2.2.2 → D.nx ((((σ.set i0 (some v0)).set i1 (some v1)).set i2 (some v2)).set i3 (some v3)) H2) : tAsg te (gTup K 4 (gCons (gName i0) (gCons (gName i1) (gCons (gName i2) (gCons (gName i3) gNil))))) D σ H :=
  h d g hm c F H (Evl.Ex.refl _) k _ fun v F2 H2 e2 k2 r2 => by
    obtain ⟨a, w0, w1, w2, w3, rfl, h1, g0, g1, g2, g3⟩ := r2
    exact ⟨a, [w0, w1, w2, w3], rfl, ext_ k2.ex h1, rfl, w0, [w1, w2, w3], rfl, w1, [w2, w3], rfl, w2, [w3], rfl, w3, [], rfl, rfl, n w0 w1 w2 w3 F2 H2 e2 k2 g0 g1 g2 g3⟩
theorem q_unp4S {cs' : δ → Cs} {g : δ} {i0 i1 i2 i3 : Nat} {d : α0 × α1 × α2 × α3} {m : Option ((α0 × α1 × α2 × α3) × δ)} (h : SM (rP4 K r0 r1 r2 r3) te σ F cs m cs') (hm : m = some (d, g)) (k : Cov c F cs H) (n : ∀ v0 v1 v2 v3 F2 H2, Ex F F2 → Cov c F2 (cs' g) H2 → r0.r F2 v0 d.1 → r1.r F2 v1 d.2.1 → r2.r F2 v2 d.2.2.1 → r3.r F2 v3 d.2.2.2 → tz D ((((σ.set i0 (some v0)).set i1 (some v1)).set i2 (some v2)).set i3 (some v3)) H2) : tSeq (tAsg te (gTup K 4 (gCons (gName i0) (gCons (gName i1) (gCons (gName i2) (gCons (gName i3) gNil)))))) tz D σ H :=
  a_unp4S (D := { D with nx := tz D }) h hm k n
theorem em_p4_0 {m : Option (α0 × α1 × α2 × α3)} (h : EM (rP4 K r0 r1 r2 r3) te σ F cs m) : EM r0 (tOp (rIxT K) te (tC (.int 0))) σ F cs (m.map fun z => z.1) := fun d q c F1 H e k Q hQ => by
  cases m with
  | none => cases q
  | some a =>
    cases q
    refine h a rfl c F1 H e k _ fun v F2 H2 e2 k2 r2 => ?_
    obtain ⟨p, v0, v1, v2, v3, rfl, h1, g0, g1, g2, g3⟩ := r2
    exact ⟨p, [v0, v1, v2, v3], 0, v0, rfl, rfl, ext_ k2.ex h1, rfl, hQ _ F2 H2 e2 k2 g0⟩
theorem em_p4_1 {m : Option (α0 × α1 × α2 × α3)} (h : EM (rP4 K r0 r1 r2 r3) te σ F cs m) : EM r1 (tOp (rIxT K) te (tC (.int 1))) σ F cs (m.map fun z => z.2.1) := fun d q c F1 H e k Q hQ => by
  cases m with
  | none => cases q
  | some a =>
    cases q
    refine h a rfl c F1 H e k _ fun v F2 H2 e2 k2 r2 => ?_
    obtain ⟨p, v0, v1, v2, v3, rfl, h1, g0, g1, g2, g3⟩ := r2
    exact ⟨p, [v0, v1, v2, v3], 1, v1, rfl, rfl, ext_ k2.ex h1, rfl, hQ _ F2 H2 e2 k2 g1⟩
theorem em_p4_2 {m : Option (α0 × α1 × α2 × α3)} (h : EM (rP4 K r0 r1 r2 r3) te σ F cs m) : EM r2 (tOp (rIxT K) te (tC (.int 2))) σ F cs (m.map fun z => z.2.2.1) := fun d q c F1 H e k Q hQ => by
  cases m with
  | none => cases q
  | some a =>
    cases q
    refine h a rfl c F1 H e k _ fun v F2 H2 e2 k2 r2 => ?_
    obtain ⟨p, v0, v1, v2, v3, rfl, h1, g0, g1, g2, g3⟩ := r2
    exact ⟨p, [v0, v1, v2, v3], 2, v2, rfl, rfl, ext_ k2.ex h1, rfl, hQ _ F2 H2 e2 k2 g2⟩
theorem em_p4_3 {m : Option (α0 × α1 × α2 × α3)} (h : EM (rP4 K r0 r1 r2 r3) te σ F cs m) : EM r3 (tOp (rIxT K) te (tC (.int 3))) σ F cs (m.map fun z => z.2.2.2) := fun d q c F1 H e k Q hQ => by
  cases m with
  | none => cases q
  | some a =>
    cases q
    refine h a rfl c F1 H e k _ fun v F2 H2 e2 k2 r2 => ?_
    obtain ⟨p, v0, v1, v2, v3, rfl, h1, g0, g1, g2, g3⟩ := r2
    exact ⟨p, [v0, v1, v2, v3], 3, v3, rfl, rfl, ext_ k2.ex h1, rfl, hQ _ F2 H2 e2 k2 g3⟩
theorem nn_p4 : NN (rP4 K r0 r1 r2 r3) := fun F v a r e => by obtain ⟨_, _, _, _, _, rfl, _⟩ := r; cases e
theorem is_p4_tuple : IsT K (rP4 K r0 r1 r2 r3) (.type "tuple") fun _ => true := fun F H v a e r => by
  obtain ⟨p, v0, v1, v2, v3, rfl, h1, _⟩ := r
  exact ⟨_, .base (.tup (e _ _ h1)), kit_ty (by show _ = some true; decide +kernel)⟩
end
theorem gt4 {K : PySem.W.Frag} {i0 i1 i2 i3 : Nat} {v0 v1 v2 v3 : V} {a : Addr} {σ : L2.St} {H : Hp} {Q : L2.St → Hp → Prop} {σ1 : L2.St} (h : SqT K H a [v0, v1, v2, v3]) (e : ((((σ.set i0 (some v0)).set i1 (some v1)).set i2 (some v2)).set i3 (some v3)) = σ1) (q : Q σ1 H) : gTup K 4 (gCons (gName i0) (gCons (gName i1) (gCons (gName i2) (gCons (gName i3) gNil)))) (.ref a) σ H Q :=
  ⟨a, [v0, v1, v2, v3], rfl, h, rfl, v0, [v1, v2, v3], rfl, v1, [v2, v3], rfl, v2, [v3], rfl, v3, [], rfl, rfl, by rw [e]; exact q⟩
theorem gt_tup4 {α0 α1 α2 α3 : Type} {r0 : Rp α0} {r1 : Rp α1} {r2 : Rp α2} {r3 : Rp α3} {K : PySem.W.Frag} {σ : L2.St} {i0 i1 i2 i3 : Nat} {σ1 : V → V → V → V → L2.St} (h : ∀ v0 v1 v2 v3, ((((σ.set i0 (some v0)).set i1 (some v1)).set i2 (some v2)).set i3 (some v3)) = σ1 v0 v1 v2 v3) : GT (gTup K 4 (gCons (gName i0) (gCons (gName i1) (gCons (gName i2) (gCons (gName i3) gNil))))) (rP4 K r0 r1 r2 r3) K σ (fun d F σ2 => ∃ v0 v1 v2 v3, σ2 = σ1 v0 v1 v2 v3 ∧ r0.r F v0 d.1 ∧ r1.r F v1 d.2.1 ∧ r2.r F v2 d.2.2.1 ∧ r3.r F v3 d.2.2.2) := fun c F cs H v d k r Q hQ => by
  obtain ⟨a, w0, w1, w2, w3, rfl, h1, g0, g1, g2, g3⟩ := r
  exact ⟨a, [w0, w1, w2, w3], rfl, ext_ k.ex h1, rfl, w0, [w1, w2, w3], rfl, w1, [w2, w3], rfl, w2, [w3], rfl, w3, [], rfl, rfl, hQ _ ⟨w0, w1, w2, w3, h w0 w1 w2 w3, g0, g1, g2, g3⟩⟩
section
variable {α0 α1 α2 α3 α4 δ : Type} {r0 : Rp α0} {r1 : Rp α1} {r2 : Rp α2} {r3 : Rp α3} {r4 : Rp α4} {σ : L2.St} {F H : Hp} {cs : Cs} {K : PySem.W.Frag} {te t0 t1 t2 t3 t4 : TE} {tz : TS} {D : Ends} {c : Act}
def rP5 (_ : PySem.W.Frag) (r0 : Rp α0) (r1 : Rp α1) (r2 : Rp α2) (r3 : Rp α3) (r4 : Rp α4) : Rp (α0 × α1 × α2 × α3 × α4) := ⟨fun H v d => ∃ a v0 v1 v2 v3 v4, v = .ref a ∧ H a = some (.tup [v0, v1, v2, v3, v4]) ∧ r0.r H v0 d.1 ∧ r1.r H v1 d.2.1 ∧ r2.r H v2 d.2.2.1 ∧ r3.r H v3 d.2.2.2.1 ∧ r4.r H v4 d.2.2.2.2,
  fun e ⟨a, v0, v1, v2, v3, v4, h1, h2, g0, g1, g2, g3, g4⟩ => ⟨a, v0, v1, v2, v3, v4, h1, e _ _ h2, r0.up e g0, r1.up e g1, r2.up e g2, r3.up e g3, r4.up e g4⟩⟩
def oP5 (m0 : Option α0) (m1 : Option α1) (m2 : Option α2) (m3 : Option α3) (m4 : Option α4) : Option (α0 × α1 × α2 × α3 × α4) := m0.bind fun a0 => m1.bind fun a1 => m2.bind fun a2 => m3.bind fun a3 => m4.bind fun a4 => some (a0, a1, a2, a3, a4)
theorem oP5_some {m0 : Option α0} {m1 : Option α1} {m2 : Option α2} {m3 : Option α3} {m4 : Option α4} {d : α0 × α1 × α2 × α3 × α4} (h : oP5 m0 m1 m2 m3 m4 = some d) : m0 = some d.1 ∧ m1 = some d.2.1 ∧ m2 = some d.2.2.1 ∧ m3 = some d.2.2.2.1 ∧ m4 = some d.2.2.2.2 := by
  obtain ⟨a0, q0, h⟩ := bind_some h
  obtain ⟨a1, q1, h⟩ := bind_some h
  obtain ⟨a2, q2, h⟩ := bind_some h
  obtain ⟨a3, q3, h⟩ := bind_some h
  obtain ⟨a4, q4, h⟩ := bind_some h
  cases h
  exact ⟨q0, q1, q2, q3, q4⟩
theorem em_tup5 {m0 : Option α0} {m1 : Option α1} {m2 : Option α2} {m3 : Option α3} {m4 : Option α4} (h0 : EM r0 t0 σ F cs m0) (h1 : EM r1 t1 σ F cs m1) (h2 : EM r2 t2 σ F cs m2) (h3 : EM r3 t3 σ F cs m3) (h4 : EM r4 t4 σ F cs m4) : EM (rP5 K r0 r1 r2 r3 r4) (tTup (tCons t0 (tCons t1 (tCons t2 (tCons t3 (tCons t4 tNil)))))) σ F cs (oP5 m0 m1 m2 m3 m4) := fun d q c F0 H0 f_0 k_0 Q hQ => by
  obtain ⟨q0, q1, q2, q3, q4⟩ := oP5_some q
  refine h0 _ q0 c F0 H0 f_0 k_0 _ fun v0 F_0 H_0 e0 k0 x0 => ?_
  have f0 := f_0.trans e0
  refine h1 _ q1 c F_0 H_0 f0 k0 _ fun v1 F_1 H_1 e1 k1 x1 => ?_
  have f1 := f0.trans e1
  refine h2 _ q2 c F_1 H_1 f1 k1 _ fun v2 F_2 H_2 e2 k2 x2 => ?_
  have f2 := f1.trans e2
  refine h3 _ q3 c F_2 H_2 f2 k2 _ fun v3 F_3 H_3 e3 k3 x3 => ?_
  have f3 := f2.trans e3
  refine h4 _ q4 c F_3 H_3 f3 k3 _ fun v4 F_4 H_4 e4 k4 x4 => ?_
  have f4 := f3.trans e4
  refine ⟨by show 5 ≤ sizeLine; decide, fun p hp => ?_⟩
  have fp := k4.fnone hp
  have ep := Ex.new (o := HO.tup [v0, v1, v2, v3, v4]) fp
  exact hQ (.ref p) _ _ (((((e0.trans e1).trans e2).trans e3).trans e4).trans ep) (k4.lay hp) ⟨p, v0, v1, v2, v3, v4, rfl, upd_same, r0.up ((((e1.trans e2).trans e3).trans e4).trans ep) x0, r1.up (((e2.trans e3).trans e4).trans ep) x1, r2.up ((e3.trans e4).trans ep) x2, r3.up (e4.trans ep) x3, r4.up ep x4⟩
def sT5 (m0 : Option (α0 × δ)) (m1 : δ → Option (α1 × δ)) (m2 : δ → Option (α2 × δ)) (m3 : δ → Option (α3 × δ)) (m4 : δ → Option (α4 × δ)) : Option ((α0 × α1 × α2 × α3 × α4) × δ) := sC (m0) fun a0 s0 => sC (m1 s0) fun a1 s1 => sC (m2 s1) fun a2 s2 => sC (m3 s2) fun a3 s3 => sC (m4 s3) fun a4 s4 => some ((a0, a1, a2, a3, a4), s4)
theorem sm_tup5 {cs : δ → Cs} {s : δ} {m0 : Option (α0 × δ)} {m1 : δ → Option (α1 × δ)} {m2 : δ → Option (α2 × δ)} {m3 : δ → Option (α3 × δ)} {m4 : δ → Option (α4 × δ)} (h0 : SM r0 t0 σ F (cs s) m0 cs) (h1 : ∀ s, SM r1 t1 σ F (cs s) (m1 s) cs) (h2 : ∀ s, SM r2 t2 σ F (cs s) (m2 s) cs) (h3 : ∀ s, SM r3 t3 σ F (cs s) (m3 s) cs) (h4 : ∀ s, SM r4 t4 σ F (cs s) (m4 s) cs) : SM (rP5 K r0 r1 r2 r3 r4) (tTup (tCons t0 (tCons t1 (tCons t2 (tCons t3 (tCons t4 tNil)))))) σ F (cs s) (sT5 m0 m1 m2 m3 m4) cs := fun d g q c F0 H0 f_0 k_0 Q hQ => by
  unfold sT5 at q
  obtain ⟨a0, g0, q0, q⟩ := sC_some q
  obtain ⟨a1, g1, q1, q⟩ := sC_some q
  obtain ⟨a2, g2, q2, q⟩ := sC_some q
  obtain ⟨a3, g3, q3, q⟩ := sC_some q
  obtain ⟨a4, g4, q4, q⟩ := sC_some q
  cases q
  refine h0 a0 _ q0 c F0 H0 f_0 k_0 _ fun v0 F_0 H_0 e0 k0 x0 => ?_
  have f0 := f_0.trans e0
  refine h1 g0 a1 _ q1 c F_0 H_0 f0 k0 _ fun v1 F_1 H_1 e1 k1 x1 => ?_
  have f1 := f0.trans e1
  refine h2 g1 a2 _ q2 c F_1 H_1 f1 k1 _ fun v2 F_2 H_2 e2 k2 x2 => ?_
  have f2 := f1.trans e2
  refine h3 g2 a3 _ q3 c F_2 H_2 f2 k2 _ fun v3 F_3 H_3 e3 k3 x3 => ?_
  have f3 := f2.trans e3
  refine h4 g3 a4 _ q4 c F_3 H_3 f3 k3 _ fun v4 F_4 H_4 e4 k4 x4 => ?_
  have f4 := f3.trans e4
  refine ⟨by show 5 ≤ sizeLine; decide, fun p hp => ?_⟩
  have fp := k4.fnone hp
  have ep := Ex.new (o := HO.tup [v0, v1, v2, v3, v4]) fp
  exact hQ (.ref p) _ _ (((((e0.trans e1).trans e2).trans e3).trans e4).trans ep) (k4.lay hp) ⟨p, v0, v1, v2, v3, v4, rfl, upd_same, r0.up ((((e1.trans e2).trans e3).trans e4).trans ep) x0, r1.up (((e2.trans e3).trans e4).trans ep) x1, r2.up ((e3.trans e4).trans ep) x2, r3.up (e4.trans ep) x3, r4.up ep x4⟩
theorem a_unp5 {i0 i1 i2 i3 i4 : Nat} {d : α0 × α1 × α2 × α3 × α4} {m : Option (α0 × α1 × α2 × α3 × α4)} (h : EM (rP5 K r0 r1 r2 r3 r4) te σ F cs m) (hm : m = some d) (k : Cov c F cs H) (n : ∀ v0 v1 v2 v3 v4 F2 H2, Ex F F2 → Cov c F2 cs H2 → r0.r F2 v0 d.1 → r1.r F2 v1 d.2.1 → r2.r F2 v2 d.2.2.1 → r3.r F2 v3 d.2.2.2.1 → r4.r F2 v4 d.2.2.2.2 → D.nx (((((σ.set i0 (some v0)).set i1 (some v1)).set i2 (some v2)).set i3 (some v3)).set i4 (some v4)) H2) : tAsg te (gTup K 5 (gCons (gName i0) (gCons (gName i1) (gCons (gName i2) (gCons (gName i3) (gCons (gName i4) gNil)))))) D σ H :=
  h d hm c F H (Evl.Ex.refl _) k _ fun v F2 H2 e2 k2 r2 => by
    obtain ⟨a, w0, w1, w2, w3, w4, rfl, h1, g0, g1, g2, g3, g4⟩ := r2
    exact ⟨a, [w0, w1, w2, w3, w4], rfl, ext_ k2.ex h1, rfl, w0, [w1, w2, w3, w4], rfl, w1, [w2, w3, w4], rfl, w2, [w3, w4], rfl, w3, [w4], rfl, w4, [], rfl, rfl, n w0 w1 w2 w3 w4 F2 H2 e2 k2 g0 g1 g2 g3 g4⟩
theorem q_unp5 {i0 i1 i2 i3 i4 : Nat} {d : α0 × α1 × α2 × α3 × α4} {m : Option (α0 × α1 × α2 × α3 × α4)} (h : EM (rP5 K r0 r1 r2 r3 r4) te σ F cs m) (hm : m = some d) (k : Cov c F cs H) (n : ∀ v0 v1 v2 v3 v4 F2 H2, Ex F F2 → Cov c F2 cs H2 → r0.r F2 v0 d.1 → r1.r F2 v1 d.2.1 → r2.r F2 v2 d.2.2.1 → r3.r F2 v3 d.2.2.2.1 → r4.r F2 v4 d.2.2.2.2 → tz D (((((σ.set i0 (some v0)).set i1 (some v1)).set i2 (some v2)).set i3 (some v3)).set i4 (some v4)) H2) : tSeq (tAsg te (gTup K 5 (gCons (gName i0) (gCons (gName i1) (gCons (gName i2) (gCons (gName i3) (gCons (gName i4) gNil))))))) tz D σ H :=
  a_unp5 (D := { D with nx := tz D }) h hm k n
theorem a_unp5S {cs' : δ → Cs} {g : δ} {i0 i1 i2 i3 i4 : Nat} {d : α0 × α1 × α2 × α3 × α4} {m : Option ((α0 × α1 × α2 × α3 × α4) × δ)} (h : SM (rP5 K r0 r1 r2 r3 r4) te σ F cs m cs') (hm : m = some (d, g)) (k : Cov c F cs H) (n : ∀ v0 v1 v2 v3 v4 F2 H2, Ex F F2 → Cov c F2 (cs' g) H2 → r0.r F2 v0 d.1 → r1.r F2 v1 d.2.1 → r2.r F2 v2 d.2.2.1 → r3.r F2 v3 d.2.2.2.1 → r4.r F2 v4 d.2.2.2.2 → D.nx (((((σ.set i0 (some v0)).set i1 (some v1)).set i2 (some v2)).set i3 (some v3)).set i4 (some v4)) H2) : tAsg te (gTup K 5 (gCons (gName i0) (gCons (gName i1) (gCons (gName i2) (gCons (gName i3) (gCons (gName i4) gNil)))))) D σ H :=
  h d g hm c F H (Evl.Ex.refl _) k _ fun v F2 H2 e2 k2 r2 => by
    obtain ⟨a, w0, w1, w2, w3, w4, rfl, h1, g0, g1, g2, g3, g4⟩ := r2
    exact ⟨a, [w0, w1, w2, w3, w4], rfl, ext_ k2.ex h1, rfl, w0, [w1, w2, w3, w4], rfl, w1, [w2, w3, w4], rfl, w2, [w3, w4], rfl, w3, [w4], rfl, w4, [], rfl, rfl, n w0 w1 w2 w3 w4 F2 H2 e2 k2 g0 g1 g2 g3 g4⟩
theorem q_unp5S {cs' : δ → Cs} {g : δ} {i0 i1 i2 i3 i4 : Nat} {d : α0 × α1 × α2 × α3 × α4} {m : Option ((α0 × α1 × α2 × α3 × α4) × δ)} (h : SM (rP5 K r0 r1 r2 r3 r4) te σ F cs m cs') (hm : m = some (d, g)) (k : Cov c F cs H) (n : ∀ v0 v1 v2 v3 v4 F2 H2, Ex F F2 → Cov c F2 (cs' g) H2 → r0.r F2 v0 d.1 → r1.r F2 v1 d.2.1 → r2.r F2 v2 d.2.2.1 → r3.r F2 v3 d.2.2.2.1 → r4.r F2 v4 d.2.2.2.2 → tz D (((((σ.set i0 (some v0)).set i1 (some v1)).set i2 (some v2)).set i3 (some v3)).set i4 (some v4)) H2) : tSeq (tAsg te (gTup K 5 (gCons (gName i0) (gCons (gName i1) (gCons (gName i2) (gCons (gName i3) (gCons (gName i4) gNil))))))) tz D σ H :=
  a_unp5S (D := { D with nx := tz D }) h hm k n
theorem em_p5_0 {m : Option (α0 × α1 × α2 × α3 × α4)} (h : EM (rP5 K r0 r1 r2 r3 r4) te σ F cs m) : EM r0 (tOp (rIxT K) te (tC (.int 0))) σ F cs (m.map fun z => z.1) := fun d q c F1 H e k Q hQ => by
  cases m with
  | none => cases q
  | some a =>
    cases q
    refine h a rfl c F1 H e k _ fun v F2 H2 e2 k2 r2 => ?_
    obtain ⟨p, v0, v1, v2, v3, v4, rfl, h1, g0, g1, g2, g3, g4⟩ := r2
    exact ⟨p, [v0, v1, v2, v3, v4], 0, v0, rfl, rfl, ext_ k2.ex h1, rfl, hQ _ F2 H2 e2 k2 g0⟩
theorem em_p5_1 {m : Option (α0 × α1 × α2 × α3 × α4)} (h : EM (rP5 K r0 r1 r2 r3 r4) te σ F cs m) : EM r1 (tOp (rIxT K) te (tC (.int 1))) σ F cs (m.map fun z => z.2.1) := fun d q c F1 H e k Q hQ => by
  cases m with
  | none => cases q
  | some a =>
    cases q
    refine h a rfl c F1 H e k _ fun v F2 H2 e2 k2 r2 => ?_
    obtain ⟨p, v0, v1, v2, v3, v4, rfl, h1, g0, g1, g2, g3, g4⟩ := r2
    exact ⟨p, [v0, v1, v2, v3, v4], 1, v1, rfl, rfl, ext_ k2.ex h1, rfl, hQ _ F2 H2 e2 k2 g1⟩
theorem em_p5_2 {m : Option (α0 × α1 × α2 × α3 × α4)} (h : EM (rP5 K r0 r1 r2 r3 r4) te σ F cs m) : EM r2 (tOp (rIxT K) te (tC (.int 2))) σ F cs (m.map fun z => z.2.2.1) := fun d q c F1 H e k Q hQ => by
  cases m with
  | none => cases q
  | some a =>
    cases q
    refine h a rfl c F1 H e k _ fun v F2 H2 e2 k2 r2 => ?_
    obtain ⟨p, v0, v1, v2, v3, v4, rfl, h1, g0, g1, g2, g3, g4⟩ := r2
    exact ⟨p, [v0, v1, v2, v3, v4], 2, v2, rfl, rfl, ext_ k2.ex h1, rfl, hQ _ F2 H2 e2 k2 g2⟩
theorem em_p5_3 {m : Option (α0 × α1 × α2 × α3 × α4)} (h : EM (rP5 K r0 r1 r2 r3 r4) te σ F cs m) : EM r3 (tOp (rIxT K) te (tC (.int 3))) σ F cs (m.map fun z => z.2.2.2.1) := fun d q c F1 H e k Q hQ => by
  cases m with
  | none => cases q
  | some a =>
    cases q
    refine h a rfl c F1 H e k _ fun v F2 H2 e2 k2 r2 => ?_
    obtain ⟨p, v0, v1, v2, v3, v4, rfl, h1, g0, g1, g2, g3, g4⟩ := r2
    exact ⟨p, [v0, v1, v2, v3, v4], 3, v3, rfl, rfl, ext_ k2.ex h1, rfl, hQ _ F2 H2 e2 k2 g3⟩
theorem em_p5_4 {m : Option (α0 × α1 × α2 × α3 × α4)} (h : EM (rP5 K r0 r1 r2 r3 r4) te σ F cs m) : EM r4 (tOp (rIxT K) te (tC (.int 4))) σ F cs (m.map fun z => z.2.2.2.2) := fun d q c F1 H e k Q hQ => by
  cases m with
  | none => cases q
  | some a =>
    cases q
    refine h a rfl c F1 H e k _ fun v F2 H2 e2 k2 r2 => ?_
    obtain ⟨p, v0, v1, v2, v3, v4, rfl, h1, g0, g1, g2, g3, g4⟩ := r2
    exact ⟨p, [v0, v1, v2, v3, v4], 4, v4, rfl, rfl, ext_ k2.ex h1, rfl, hQ _ F2 H2 e2 k2 g4⟩
theorem nn_p5 : NN (rP5 K r0 r1 r2 r3 r4) := fun F v a r e => by obtain ⟨_, _, _, _, _, _, rfl, _⟩ := r; cases e
theorem is_p5_tuple : IsT K (rP5 K r0 r1 r2 r3 r4) (.type "tuple") fun _ => true := fun F H v a e r => by
  obtain ⟨p, v0, v1, v2, v3, v4, rfl, h1, _⟩ := r
  exact ⟨_, .base (.tup (e _ _ h1)), kit_ty (by show _ = some true; decide +kernel)⟩
end
theorem gt5 {K : PySem.W.Frag} {i0 i1 i2 i3 i4 : Nat} {v0 v1 v2 v3 v4 : V} {a : Addr} {σ : L2.St} {H : Hp} {Q : L2.St → Hp → Prop} {σ1 : L2.St} (h : SqT K H a [v0, v1, v2, v3, v4]) (e : (((((σ.set i0 (some v0)).set i1 (some v1)).set i2 (some v2)).set i3 (some v3)).set i4 (some v4)) = σ1) (q : Q σ1 H) : gTup K 5 (gCons (gName i0) (gCons (gName i1) (gCons (gName i2) (gCons (gName i3) (gCons (gName i4) gNil))))) (.ref a) σ H Q :=
  ⟨a, [v0, v1, v2, v3, v4], rfl, h, rfl, v0, [v1, v2, v3, v4], rfl, v1, [v2, v3, v4], rfl, v2, [v3, v4], rfl, v3, [v4], rfl, v4, [], rfl, rfl, by rw [e]; exact q⟩
theorem gt_tup5 {α0 α1 α2 α3 α4 : Type} {r0 : Rp α0} {r1 : Rp α1} {r2 : Rp α2} {r3 : Rp α3} {r4 : Rp α4} {K : PySem.W.Frag} {σ : L2.St} {i0 i1 i2 i3 i4 : Nat} {σ1 : V → V → V → V → V → L2.St} (h : ∀ v0 v1 v2 v3 v4, (((((σ.set i0 (some v0)).set i1 (some v1)).set i2 (some v2)).set i3 (some v3)).set i4 (some v4)) = σ1 v0 v1 v2 v3 v4) : GT (gTup K 5 (gCons (gName i0) (gCons (gName i1) (gCons (gName i2) (gCons (gName i3) (gCons (gName i4) gNil)))))) (rP5 K r0 r1 r2 r3 r4) K σ (fun d F σ2 => ∃ v0 v1 v2 v3 v4, σ2 = σ1 v0 v1 v2 v3 v4 ∧ r0.r F v0 d.1 ∧ r1.r F v1 d.2.1 ∧ r2.r F v2 d.2.2.1 ∧ r3.r F v3 d.2.2.2.1 ∧ r4.r F v4 d.2.2.2.2) := fun c F cs H v d k r Q hQ => by
  obtain ⟨a, w0, w1, w2, w3, w4, rfl, h1, g0, g1, g2, g3, g4⟩ := r
  exact ⟨a, [w0, w1, w2, w3, w4], rfl, ext_ k.ex h1, rfl, w0, [w1, w2, w3, w4], rfl, w1, [w2, w3, w4], rfl, w2, [w3, w4], rfl, w3, [w4], rfl, w4, [], rfl, rfl, hQ _ ⟨w0, w1, w2, w3, w4, h w0 w1 w2 w3 w4, g0, g1, g2, g3, g4⟩⟩
section
variable {α0 α1 α2 α3 α4 α5 δ : Type} {r0 : Rp α0} {r1 : Rp α1} {r2 : Rp α2} {r3 : Rp α3} {r4 : Rp α4} {r5 : Rp α5} {σ : L2.St} {F H : Hp} {cs : Cs} {K : PySem.W.Frag} {te t0 t1 t2 t3 t4 t5 : TE} {tz : TS} {D : Ends} {c : Act}
def rP6 (_ : PySem.W.Frag) (r0 : Rp α0) (r1 : Rp α1) (r2 : Rp α2) (r3 : Rp α3) (r4 : Rp α4) (r5 : Rp α5) : Rp (α0 × α1 × α2 × α3 × α4 × α5) := ⟨fun H v d => ∃ a v0 v1 v2 v3 v4 v5, v = .ref a ∧ H a = some (.tup [v0, v1, v2, v3, v4, v5]) ∧ r0.r H v0 d.1 ∧ r1.r H v1 d.2.1 ∧ r2.r H v2 d.2.2.1 ∧ r3.r H v3 d.2.2.2.1 ∧ r4.r H v4 d.2.2.2.2.1 ∧ r5.r H v5 d.2.2.2.2.2,
  fun e ⟨a, v0, v1, v2, v3, v4, v5, h1, h2, g0, g1, g2, g3, g4, g5⟩ => ⟨a, v0, v1, v2, v3, v4, v5, h1, e _ _ h2, r0.up e g0, r1.up e g1, r2.up e g2, r3.up e g3, r4.up e g4, r5.up e g5⟩⟩
def oP6 (m0 : Option α0) (m1 : Option α1) (m2 : Option α2) (m3 : Option α3) (m4 : Option α4) (m5 : Option α5) : Option (α0 × α1 × α2 × α3 × α4 × α5) := m0.bind fun a0 => m1.bind fun a1 => m2.bind fun a2 => m3.bind fun a3 => m4.bind fun a4 => m5.bind fun a5 => some (a0, a1, a2, a3, a4, a5)
theorem oP6_some {m0 : Option α0} {m1 : Option α1} {m2 : Option α2} {m3 : Option α3} {m4 : Option α4} {m5 : Option α5} {d : α0 × α1 × α2 × α3 × α4 × α5} (h : oP6 m0 m1 m2 m3 m4 m5 = some d) : m0 = some d.1 ∧ m1 = some d.2.1 ∧ m2 = some d.2.2.1 ∧ m3 = some d.2.2.2.1 ∧ m4 = some d.2.2.2.2.1 ∧ m5 = some d.2.2.2.2.2 := by
  obtain ⟨a0, q0, h⟩ := bind_some h
  obtain ⟨a1, q1, h⟩ := bind_some h
  obtain ⟨a2, q2, h⟩ := bind_some h
  obtain ⟨a3, q3, h⟩ := bind_some h
  obtain ⟨a4, q4, h⟩ := bind_some h
  obtain ⟨a5, q5, h⟩ := bind_some h
  cases h
  exact ⟨q0, q1, q2, q3, q4, q5⟩
theorem em_tup6 {m0 : Option α0} {m1 : Option α1} {m2 : Option α2} {m3 : Option α3} {m4 : Option α4} {m5 : Option α5} (h0 : EM r0 t0 σ F cs m0) (h1 : EM r1 t1 σ F cs m1) (h2 : EM r2 t2 σ F cs m2) (h3 : EM r3 t3 σ F cs m3) (h4 : EM r4 t4 σ F cs m4) (h5 : EM r5 t5 σ F cs m5) : EM (rP6 K r0 r1 r2 r3 r4 r5) (tTup (tCons t0 (tCons t1 (tCons t2 (tCons t3 (tCons t4 (tCons t5 tNil))))))) σ F cs (oP6 m0 m1 m2 m3 m4 m5) := fun d q c F0 H0 f_0 k_0 Q hQ => by
  obtain ⟨q0, q1, q2, q3, q4, q5⟩ := oP6_some q
  refine h0 _ q0 c F0 H0 f_0 k_0 _ fun v0 F_0 H_0 e0 k0 x0 => ?_
  have f0 := f_0.trans e0
  refine h1 _ q1 c F_0 H_0 f0 k0 _ fun v1 F_1 H_1 e1 k1 x1 => ?_
  have f1 := f0.trans e1
  refine h2 _ q2 c F_1 H_1 f1 k1 _ fun v2 F_2 H_2 e2 k2 x2 => ?_
  have f2 := f1.trans e2
  refine h3 _ q3 c F_2 H_2 f2 k2 _ fun v3 F_3 H_3 e3 k3 x3 => ?_
  have f3 := f2.trans e3
  refine h4 _ q4 c F_3 H_3 f3 k3 _ fun v4 F_4 H_4 e4 k4 x4 => ?_
  have f4 := f3.trans e4
  refine h5 _ q5 c F_4 H_4 f4 k4 _ fun v5 F_5 H_5 e5 k5 x5 => ?_
  have f5 := f4.trans e5
  refine ⟨by show 6 ≤ sizeLine; decide, fun p hp => ?_⟩
  have fp := k5.fnone hp
  have ep := Ex.new (o := HO.tup [v0, v1, v2, v3, v4, v5]) fp
  exact hQ (.ref p) _ _ ((((((e0.trans e1).trans e2).trans e3).trans e4).trans e5).trans ep) (k5.lay hp) ⟨p, v0, v1, v2, v3, v4, v5, rfl, upd_same, r0.up (((((e1.trans e2).trans e3).trans e4).trans e5).trans ep) x0, r1.up ((((e2.trans e3).trans e4).trans e5).trans ep) x1, r2.up (((e3.trans e4).trans e5).trans ep) x2, r3.up ((e4.trans e5).trans ep) x3, r4.up (e5.trans ep) x4, r5.up ep x5⟩
def sT6 (m0 : Option (α0 × δ)) (m1 : δ → Option (α1 × δ)) (m2 : δ → Option (α2 × δ)) (m3 : δ → Option (α3 × δ)) (m4 : δ → Option (α4 × δ)) (m5 : δ → Option (α5 × δ)) : Option ((α0 × α1 × α2 × α3 × α4 × α5) × δ) := sC (m0) fun a0 s0 => sC (m1 s0) fun a1 s1 => sC (m2 s1) fun a2 s2 => sC (m3 s2) fun a3 s3 => sC (m4 s3) fun a4 s4 => sC (m5 s4) fun a5 s5 => some ((a0, a1, a2, a3, a4, a5), s5)
theorem sm_tup6 {cs : δ → Cs} {s : δ} {m0 : Option (α0 × δ)} {m1 : δ → Option (α1 × δ)} {m2 : δ → Option (α2 × δ)} {m3 : δ → Option (α3 × δ)} {m4 : δ → Option (α4 × δ)} {m5 : δ → Option (α5 × δ)} (h0 : SM r0 t0 σ F (cs s) m0 cs) (h1 : ∀ s, SM r1 t1 σ F (cs s) (m1 s) cs) (h2 : ∀ s, SM r2 t2 σ F (cs s) (m2 s) cs) (h3 : ∀ s, SM r3 t3 σ F (cs s) (m3 s) cs) (h4 : ∀ s, SM r4 t4 σ F (cs s) (m4 s) cs) (h5 : ∀ s, SM r5 t5 σ F (cs s) (m5 s) cs) : SM (rP6 K r0 r1 r2 r3 r4 r5) (tTup (tCons t0 (tCons t1 (tCons t2 (tCons t3 (tCons t4 (tCons t5 tNil))))))) σ F (cs s) (sT6 m0 m1 m2 m3 m4 m5) cs := fun d g q c F0 H0 f_0 k_0 Q hQ => by
  unfold sT6 at q
  obtain ⟨a0, g0, q0, q⟩ := sC_some q
  obtain ⟨a1, g1, q1, q⟩ := sC_some q
  obtain ⟨a2, g2, q2, q⟩ := sC_some q
  obtain ⟨a3, g3, q3, q⟩ := sC_some q
  obtain ⟨a4, g4, q4, q⟩ := sC_some q
  obtain ⟨a5, g5, q5, q⟩ := sC_some q
  cases q
  refine h0 a0 _ q0 c F0 H0 f_0 k_0 _ fun v0 F_0 H_0 e0 k0 x0 => ?_
  have f0 := f_0.trans e0
  refine h1 g0 a1 _ q1 c F_0 H_0 f0 k0 _ fun v1 F_1 H_1 e1 k1 x1 => ?_
  have f1 := f0.trans e1
  refine h2 g1 a2 _ q2 c F_1 H_1 f1 k1 _ fun v2 F_2 H_2 e2 k2 x2 => ?_
  have f2 := f1.trans e2
  refine h3 g2 a3 _ q3 c F_2 H_2 f2 k2 _ fun v3 F_3 H_3 e3 k3 x3 => ?_
  have f3 := f2.trans e3
  refine h4 g3 a4 _ q4 c F_3 H_3 f3 k3 _ fun v4 F_4 H_4 e4 k4 x4 => ?_
  have f4 := f3.trans e4
  refine h5 g4 a5 _ q5 c F_4 H_4 f4 k4 _ fun v5 F_5 H_5 e5 k5 x5 => ?_
  have f5 := f4.trans e5
  refine ⟨by show 6 ≤ sizeLine; decide, fun p hp => ?_⟩
  have fp := k5.fnone hp
  have ep := Ex.new (o := HO.tup [v0, v1, v2, v3, v4, v5]) fp
  exact hQ (.ref p) _ _ ((((((e0.trans e1).trans e2).trans e3).trans e4).trans e5).trans ep) (k5.lay hp) ⟨p, v0, v1, v2, v3, v4, v5, rfl, upd_same, r0.up (((((e1.trans e2).trans e3).trans e4).trans e5).trans ep) x0, r1.up ((((e2.trans e3).trans e4).trans e5).trans ep) x1, r2.up (((e3.trans e4).trans e5).trans ep) x2, r3.up ((e4.trans e5).trans ep) x3, r4.up (e5.trans ep) x4, r5.up ep x5⟩
theorem a_unp6 {i0 i1 i2 i3 i4 i5 : Nat} {d : α0 × α1 × α2 × α3 × α4 × α5} {m : Option (α0 × α1 × α2 × α3 × α4 × α5)} (h : EM (rP6 K r0 r1 r2 r3 r4 r5) te σ F cs m) (hm : m = some d) (k : Cov c F cs H) (n : ∀ v0 v1 v2 v3 v4 v5 F2 H2, Ex F F2 → Cov c F2 cs H2 → r0.r F2 v0 d.1 → r1.r F2 v1 d.2.1 → r2.r F2 v2 d.2.2.1 → r3.r F2 v3 d.2.2.2.1 → r4.r F2 v4 d.2.2.2.2.1 → r5.r F2 v5 d.2.2.2.2.2 → D.nx ((((((σ.set i0 (some v0)).set i1 (some v1)).set i2 (some v2)).set i3 (some v3)).set i4 (some v4)).set i5 (some v5)) H2) : tAsg te (gTup K 6 (gCons (gName i0) (gCons (gName i1) (gCons (gName i2) (gCons (gName i3) (gCons (gName i4) (gCons (gName i5) gNil))))))) D σ H :=
  h d hm c F H (Evl.Ex.refl _) k _ fun v F2 H2 e2 k2 r2 => by
    obtain ⟨a, w0, w1, w2, w3, w4, w5, rfl, h1, g0, g1, g2, g3, g4, g5⟩ := r2
    exact ⟨a, [w0, w1, w2, w3, w4, w5], rfl, ext_ k2.ex h1, rfl, w0, [w1, w2, w3, w4, w5], rfl, w1, [w2, w3, w4, w5], rfl, w2, [w3, w4, w5], rfl, w3, [w4, w5], rfl, w4, [w5], rfl, w5, [], rfl, rfl, n w0 w1 w2 w3 w4 w5 F2 H2 e2 k2 g0 g1 g2 g3 g4 g5⟩
theorem q_unp6 {i0 i1 i2 i3 i4 i5 : Nat} {d : α0 × α1 × α2 × α3 × α4 × α5} {m : Option (α0 × α1 × α2 × α3 × α4 × α5)} (h : EM (rP6 K r0 r1 r2 r3 r4 r5) te σ F cs m) (hm : m = some d) (k : Cov c F cs H) (n : ∀ v0 v1 v2 v3 v4 v5 F2 H2, Ex F F2 → Cov c F2 cs H2 → r0.r F2 v0 d.1 → r1.r F2 v1 d.2.1 → r2.r F2 v2 d.2.2.1 → r3.r F2 v3 d.2.2.2.1 → r4.r F2 v4 d.2.2.2.2.1 → r5.r F2 v5 d.2.2.2.2.2 → tz D ((((((σ.set i0 (some v0)).set i1 (some v1)).set i2 (some v2)).set i3 (some v3)).set i4 (some v4)).set i5 (some v5)) H2) : tSeq (tAsg te (gTup K 6 (gCons (gName i0) (gCons (gName i1) (gCons (gName i2) (gCons (gName i3) (gCons (gName i4) (gCons (gName i5) gNil)))))))) tz D σ H :=
  a_unp6 (D := { D with nx := tz D }) h hm k n
theorem a_unp6S {cs' : δ → Cs} {g : δ} {i0 i1 i2 i3 i4 i5 : Nat} {d : α0 × α1 × α2 × α3 × α4 × α5} {m : Option ((α0 × α1 × α2 × α3 × α4 × α5) × δ)} (h : SM (rP6 K r0 r1 r2 r3 r4 r5) te σ F cs m cs') (hm : m = some (d, g)) (k : Cov c F cs H) (n : ∀ v0 v1 v2 v3 v4 v5 F2 H2, Ex F F2 → Cov c F2 (cs' g) H2 → r0.r F2 v0 d.1 → r1.r F2 v1 d.2.1 → r2.r F2 v2 d.2.2.1 → r3.r F2 v3 d.2.2.2.1 → r4.r F2 v4 d.2.2.2.2.1 → r5.r F2 v5 d.2.2.2.2.2 → D.nx ((((((σ.set i0 (some v0)).set i1 (some v1)).set i2 (some v2)).set i3 (some v3)).set i4 (some v4)).set i5 (some v5)) H2) : tAsg te (gTup K 6 (gCons (gName i0) (gCons (gName i1) (gCons (gName i2) (gCons (gName i3) (gCons (gName i4) (gCons (gName i5) gNil))))))) D σ H :=
  h d g hm c F H (Evl.Ex.refl _) k _ fun v F2 H2 e2 k2 r2 => by
    obtain ⟨a, w0, w1, w2, w3, w4, w5, rfl, h1, g0, g1, g2, g3, g4, g5⟩ := r2
    exact ⟨a, [w0, w1, w2, w3, w4, w5], rfl, ext_ k2.ex h1, rfl, w0, [w1, w2, w3, w4, w5], rfl, w1, [w2, w3, w4, w5], rfl, w2, [w3, w4, w5], rfl, w3, [w4, w5], rfl, w4, [w5], rfl, w5, [], rfl, rfl, n w0 w1 w2 w3 w4 w5 F2 H2 e2 k2 g0 g1 g2 g3 g4 g5⟩
theorem q_unp6S {cs' : δ → Cs} {g : δ} {i0 i1 i2 i3 i4 i5 : Nat} {d : α0 × α1 × α2 × α3 × α4 × α5} {m : Option ((α0 × α1 × α2 × α3 × α4 × α5) × δ)} (h : SM (rP6 K r0 r1 r2 r3 r4 r5) te σ F cs m cs') (hm : m = some (d, g)) (k : Cov c F cs H) (n : ∀ v0 v1 v2 v3 v4 v5 F2 H2, Ex F F2 → Cov c F2 (cs' g) H2 → r0.r F2 v0 d.1 → r1.r F2 v1 d.2.1 → r2.r F2 v2 d.2.2.1 → r3.r F2 v3 d.2.2.2.1 → r4.r F2 v4 d.2.2.2.2.1 → r5.r F2 v5 d.2.2.2.2.2 → tz D ((((((σ.set i0 (some v0)).set i1 (some v1)).set i2 (some v2)).set i3 (some v3)).set i4 (some v4)).set i5 (some v5)) H2) : tSeq (tAsg te (gTup K 6 (gCons (gName i0) (gCons (gName i1) (gCons (gName i2) (gCons (gName i3) (gCons (gName i4) (gCons (gName i5) gNil)))))))) tz D σ H :=
  a_unp6S (D := { D with nx := tz D }) h hm k n
theorem em_p6_0 {m : Option (α0 × α1 × α2 × α3 × α4 × α5)} (h : EM (rP6 K r0 r1 r2 r3 r4 r5) te σ F cs m) : EM r0 (tOp (rIxT K) te (tC (.int 0))) σ F cs (m.map fun z => z.1) := fun d q c F1 H e k Q hQ => by
  cases m with
  | none => cases q
  | some a =>
    cases q
    refine h a rfl c F1 H e k _ fun v F2 H2 e2 k2 r2 => ?_
    obtain ⟨p, v0, v1, v2, v3, v4, v5, rfl, h1, g0, g1, g2, g3, g4, g5⟩ := r2
    exact ⟨p, [v0, v1, v2, v3, v4, v5], 0, v0, rfl, rfl, ext_ k2.ex h1, rfl, hQ _ F2 H2 e2 k2 g0⟩
theorem em_p6_1 {m : Option (α0 × α1 × α2 × α3 × α4 × α5)} (h : EM (rP6 K r0 r1 r2 r3 r4 r5) te σ F cs m) : EM r1 (tOp (rIxT K) te (tC (.int 1))) σ F cs (m.map fun z => z.2.1) := fun d q c F1 H e k Q hQ => by
  cases m with
  | none => cases q
  | some a =>
    cases q
    refine h a rfl c F1 H e k _ fun v F2 H2 e2 k2 r2 => ?_
    obtain ⟨p, v0, v1, v2, v3, v4, v5, rfl, h1, g0, g1, g2, g3, g4, g5⟩ := r2
    exact ⟨p, [v0, v1, v2, v3, v4, v5], 1, v1, rfl, rfl, ext_ k2.ex h1, rfl, hQ _ F2 H2 e2 k2 g1⟩
theorem em_p6_2 {m : Option (α0 × α1 × α2 × α3 × α4 × α5)} (h : EM (rP6 K r0 r1 r2 r3 r4 r5) te σ F cs m) : EM r2 (tOp (rIxT K) te (tC (.int 2))) σ F cs (m.map fun z => z.2.2.1) := fun d q c F1 H e k Q hQ => by
  cases m with
  | none => cases q
  | some a =>
    cases q
    refine h a rfl c F1 H e k _ fun v F2 H2 e2 k2 r2 => ?_
    obtain ⟨p, v0, v1, v2, v3, v4, v5, rfl, h1, g0, g1, g2, g3, g4, g5⟩ := r2
    exact ⟨p, [v0, v1, v2, v3, v4, v5], 2, v2, rfl, rfl, ext_ k2.ex h1, rfl, hQ _ F2 H2 e2 k2 g2⟩
theorem em_p6_3 {m : Option (α0 × α1 × α2 × α3 × α4 × α5)} (h : EM (rP6 K r0 r1 r2 r3 r4 r5) te σ F cs m) : EM r3 (tOp (rIxT K) te (tC (.int 3))) σ F cs (m.map fun z => z.2.2.2.1) := fun d q c F1 H e k Q hQ => by
  cases m with
  | none => cases q
  | some a =>
    cases q
    refine h a rfl c F1 H e k _ fun v F2 H2 e2 k2 r2 => ?_
    obtain ⟨p, v0, v1, v2, v3, v4, v5, rfl, h1, g0, g1, g2, g3, g4, g5⟩ := r2
    exact ⟨p, [v0, v1, v2, v3, v4, v5], 3, v3, rfl, rfl, ext_ k2.ex h1, rfl, hQ _ F2 H2 e2 k2 g3⟩
theorem em_p6_4 {m : Option (α0 × α1 × α2 × α3 × α4 × α5)} (h : EM (rP6 K r0 r1 r2 r3 r4 r5) te σ F cs m) : EM r4 (tOp (rIxT K) te (tC (.int 4))) σ F cs (m.map fun z => z.2.2.2.2.1) := fun d q c F1 H e k Q hQ => by
  cases m with
  | none => cases q
  | some a =>
    cases q
    refine h a rfl c F1 H e k _ fun v F2 H2 e2 k2 r2 => ?_
    obtain ⟨p, v0, v1, v2, v3, v4, v5, rfl, h1, g0, g1, g2, g3, g4, g5⟩ := r2
    exact ⟨p, [v0, v1, v2, v3, v4, v5], 4, v4, rfl, rfl, ext_ k2.ex h1, rfl, hQ _ F2 H2 e2 k2 g4⟩
theorem em_p6_5 {m : Option (α0 × α1 × α2 × α3 × α4 × α5)} (h : EM (rP6 K r0 r1 r2 r3 r4 r5) te σ F cs m) : EM r5 (tOp (rIxT K) te (tC (.int 5))) σ F cs (m.map fun z => z.2.2.2.2.2) := fun d q c F1 H e k Q hQ => by
  cases m with
  | none => cases q
  | some a =>
    cases q
    refine h a rfl c F1 H e k _ fun v F2 H2 e2 k2 r2 => ?_
    obtain ⟨p, v0, v1, v2, v3, v4, v5, rfl, h1, g0, g1, g2, g3, g4, g5⟩ := r2
    exact ⟨p, [v0, v1, v2, v3, v4, v5], 5, v5, rfl, rfl, ext_ k2.ex h1, rfl, hQ _ F2 H2 e2 k2 g5⟩
theorem nn_p6 : NN (rP6 K r0 r1 r2 r3 r4 r5) := fun F v a r e => by obtain ⟨_, _, _, _, _, _, _, rfl, _⟩ := r; cases e
theorem is_p6_tuple : IsT K (rP6 K r0 r1 r2 r3 r4 r5) (.type "tuple") fun _ => true := fun F H v a e r => by
  obtain ⟨p, v0, v1, v2, v3, v4, v5, rfl, h1, _⟩ := r
  exact ⟨_, .base (.tup (e _ _ h1)), kit_ty (by show _ = some true; decide +kernel)⟩
end
theorem gt6 {K : PySem.W.Frag} {i0 i1 i2 i3 i4 i5 : Nat} {v0 v1 v2 v3 v4 v5 : V} {a : Addr} {σ : L2.St} {H : Hp} {Q : L2.St → Hp → Prop} {σ1 : L2.St} (h : SqT K H a [v0, v1, v2, v3, v4, v5]) (e : ((((((σ.set i0 (some v0)).set i1 (some v1)).set i2 (some v2)).set i3 (some v3)).set i4 (some v4)).set i5 (some v5)) = σ1) (q : Q σ1 H) : gTup K 6 (gCons (gName i0) (gCons (gName i1) (gCons (gName i2) (gCons (gName i3) (gCons (gName i4) (gCons (gName i5) gNil)))))) (.ref a) σ H Q :=
  ⟨a, [v0, v1, v2, v3, v4, v5], rfl, h, rfl, v0, [v1, v2, v3, v4, v5], rfl, v1, [v2, v3, v4, v5], rfl, v2, [v3, v4, v5], rfl, v3, [v4, v5], rfl, v4, [v5], rfl, v5, [], rfl, rfl, by rw [e]; exact q⟩
theorem gt_tup6 {α0 α1 α2 α3 α4 α5 : Type} {r0 : Rp α0} {r1 : Rp α1} {r2 : Rp α2} {r3 : Rp α3} {r4 : Rp α4} {r5 : Rp α5} {K : PySem.W.Frag} {σ : L2.St} {i0 i1 i2 i3 i4 i5 : Nat} {σ1 : V → V → V → V → V → V → L2.St} (h : ∀ v0 v1 v2 v3 v4 v5, ((((((σ.set i0 (some v0)).set i1 (some v1)).set i2 (some v2)).set i3 (some v3)).set i4 (some v4)).set i5 (some v5)) = σ1 v0 v1 v2 v3 v4 v5) : GT (gTup K 6 (gCons (gName i0) (gCons (gName i1) (gCons (gName i2) (gCons (gName i3) (gCons (gName i4) (gCons (gName i5) gNil))))))) (rP6 K r0 r1 r2 r3 r4 r5) K σ (fun d F σ2 => ∃ v0 v1 v2 v3 v4 v5, σ2 = σ1 v0 v1 v2 v3 v4 v5 ∧ r0.r F v0 d.1 ∧ r1.r F v1 d.2.1 ∧ r2.r F v2 d.2.2.1 ∧ r3.r F v3 d.2.2.2.1 ∧ r4.r F v4 d.2.2.2.2.1 ∧ r5.r F v5 d.2.2.2.2.2) := fun c F cs H v d k r Q hQ => by
  obtain ⟨a, w0, w1, w2, w3, w4, w5, rfl, h1, g0, g1, g2, g3, g4, g5⟩ := r
  exact ⟨a, [w0, w1, w2, w3, w4, w5], rfl, ext_ k.ex h1, rfl, w0, [w1, w2, w3, w4, w5], rfl, w1, [w2, w3, w4, w5], rfl, w2, [w3, w4, w5], rfl, w3, [w4, w5], rfl, w4, [w5], rfl, w5, [], rfl, rfl, hQ _ ⟨w0, w1, w2, w3, w4, w5, h w0 w1 w2 w3 w4 w5, g0, g1, g2, g3, g4, g5⟩⟩
end Mw

set_option maxHeartbeats 2000000
/-! a cell lent to an expression; insert, reverse, pop -/
namespace Mw
open PySem L2
open Evl (Ex)
section
variable {α β γ : Type} {ra : Rp α} {rc : Rp γ} {σ : L2.St} {F H : Hp} {cs : Cs} {K : PySem.W.Frag} {te ti : TE} {t : TT} {tz : TS} {D : Ends} {c : Act} {d : α} {m : Option α}
theorem em_lend {mc : Option γ} {j : Nat} {p : Addr} {ds : List α} (fl : Flat rc) (hj : cs[j]? = some (p, cLst ra ds)) (h : ∀ F', Ex F F' → (rLst ra).r F' (.ref p) ds → EM rc te σ F' [] mc) : EM rc te σ F cs mc := fun d q c F1 H e k Q hQ => by
  obtain ⟨G, g1, g2, w⟩ := k.lend (Evl.Ex.refl F1) k.ex hj
  exact h G (e.trans g1) w d q ⟨H, G, []⟩ G H (Evl.Ex.refl _) (Cov.init g2) Q fun v F9 H9 e9 k9 r9 => hQ v F1 H9 (Evl.Ex.refl _) (k.lent g1 k9) (fl _ _ _ _ r9)
theorem et_lend {mb : Option Bool} {j : Nat} {p : Addr} {ds : List α} (hj : cs[j]? = some (p, cLst ra ds)) (h : ∀ F', Ex F F' → (rLst ra).r F' (.ref p) ds → ET t σ F' [] mb) : ET t σ F cs mb := fun d q c F1 H e k Q hQ => by
  obtain ⟨G, g1, g2, w⟩ := k.lend (Evl.Ex.refl F1) k.ex hj
  exact h G (e.trans g1) w d q ⟨H, G, []⟩ G H (Evl.Ex.refl _) (Cov.init g2) Q fun F9 H9 e9 k9 => hQ F1 H9 (Evl.Ex.refl _) (k.lent g1 k9)
/-- xs.insert(i, e) -/
def insG {α : Type} (l : List α) (i : Int) (x : α) : Option (List α) := if 0 ≤ i ∧ i < 2 ^ 62 ∧ l.length ≤ 16000000 then some (l.take i.toNat ++ [x] ++ l.drop i.toNat) else none
abbrev rIns : V → List V → Hp → VK → Prop := fun x vs H Q => ∃ (l : Addr) (xs : List V) (i : Int) (y : V), x = .ref l ∧ vs = [.int i, y] ∧ H l = some (.lst xs) ∧ xs.length < sizeLine ∧ 0 ≤ i ∧ i < 2 ^ 63 ∧ Q .non (upd H l (.lst (xs.take i.toNat ++ [y] ++ xs.drop i.toNat)))
theorem Rs.take1 : ∀ {l : List V} {l' : List α}, Rs ra F l l' → ∀ n, Rs ra F (l.take n) (l'.take n)
  | _, _, .nil, n => by simp; exact .nil
  | _, _, .cons h t, 0 => .nil
  | _, _, .cons h t, n + 1 => .cons h (Rs.take1 t n)
theorem Rs.drop1 : ∀ {l : List V} {l' : List α}, Rs ra F l l' → ∀ n, Rs ra F (l.drop n) (l'.drop n)
  | _, _, .nil, n => by simp; exact .nil
  | _, _, .cons h t, 0 => .cons h t
  | _, _, .cons h t, n + 1 => Rs.drop1 t n
theorem a_ins {i j : Nat} {p : Addr} {ds ds' : List α} {mi : Option Int} {ix : Int} (hx : σ[i]? = some (some (.ref p))) (hj : cs[j]? = some (p, cLst ra ds)) (hi : EM rInt ti σ F cs mi) (h : EM ra te σ F cs m) (hmi : mi = some ix) (hm : m = some d) (hs : insG ds ix d = some ds') (k : Cov c F cs H)
    (n : ∀ F2 H2, Ex F F2 → Cov c F2 (cs.set j (p, cLst ra ds')) H2 → D.nx σ H2) : tDrop (tBM K "list" rIns (tVar i) (tCons ti (tCons te tNil))) D σ H := by
  refine ⟨_, hx, ?_, ?_⟩
  · obtain ⟨_, _, o, h3, vs, rfl, h4⟩ := k.at_ j hj
    exact .inl ⟨rfl, _, SqL.of h3⟩
  · refine hi ix hmi c F H (Evl.Ex.refl _) k _ fun w F1 H1 e1 k1 r1 => h d hm c F1 H1 e1 k1 _ fun v F2 H2 e2 k2 r2 => ?_
    obtain ⟨_, _, o, h3, vs, rfl, h4⟩ := k2.at_ j hj
    cases r1
    unfold insG at hs
    split at hs
    · rename_i hz
      cases hs
      refine ⟨p, vs, ix, v, rfl, rfl, h3, sz_lt (by rw [h4.length]; omega), hz.1, by omega, n F2 _ (e1.trans e2) (k2.set j hj ⟨_, rfl, ?_⟩)⟩
      exact ((Rs.take1 h4 _).append (.cons r2 .nil)).append (Rs.drop1 h4 _)
    · cases hs
theorem q_ins {i j : Nat} {p : Addr} {ds ds' : List α} {mi : Option Int} {ix : Int} (hx : σ[i]? = some (some (.ref p))) (hj : cs[j]? = some (p, cLst ra ds)) (hi : EM rInt ti σ F cs mi) (h : EM ra te σ F cs m) (hmi : mi = some ix) (hm : m = some d) (hs : insG ds ix d = some ds') (k : Cov c F cs H)
    (n : ∀ F2 H2, Ex F F2 → Cov c F2 (cs.set j (p, cLst ra ds')) H2 → tz D σ H2) : tSeq (tDrop (tBM K "list" rIns (tVar i) (tCons ti (tCons te tNil)))) tz D σ H := a_ins (D := { D with nx := tz D }) hx hj hi h hmi hm hs k n
/-- xs.reverse() -/
theorem a_rev {i j : Nat} {p : Addr} {ds : List α} (hx : σ[i]? = some (some (.ref p))) (hj : cs[j]? = some (p, cLst ra ds)) (k : Cov c F cs H)
    (n : ∀ F2 H2, Ex F F2 → Cov c F2 (cs.set j (p, cLst ra ds.reverse)) H2 → D.nx σ H2) : tDrop (tBM0 K "list" rReverse (tVar i)) D σ H := by
  obtain ⟨_, _, o, h3, vs, rfl, h4⟩ := k.at_ j hj
  exact ⟨_, hx, .inl ⟨rfl, _, SqL.of h3⟩, p, vs, rfl, rfl, h3, n F _ (Evl.Ex.refl _) (k.set j hj ⟨_, rfl, h4.rev⟩)⟩
theorem q_rev {i j : Nat} {p : Addr} {ds : List α} (hx : σ[i]? = some (some (.ref p))) (hj : cs[j]? = some (p, cLst ra ds)) (k : Cov c F cs H)
    (n : ∀ F2 H2, Ex F F2 → Cov c F2 (cs.set j (p, cLst ra ds.reverse)) H2 → tz D σ H2) : tSeq (tDrop (tBM0 K "list" rReverse (tVar i))) tz D σ H := a_rev (D := { D with nx := tz D }) hx hj k n
end
end Mw

set_option maxHeartbeats 2000000
/-! Mu: repr of integers. -/
namespace Mw
open PySem L2
open Evl (Ex)
def reprG (i : Int) : Option PySem.Str := if i.natAbs.log2 < 1920 then some (toString i) else none
def reprP : Pay → Option PySem.Str
  | .int i => reprG i
  | _ => none
section
variable {K : PySem.W.Frag}
abbrev rdRepr : List V → Hp → VK → Prop := fun xs H Q => ∃ i, xs = [.int i] ∧ i.natAbs.log2 < 1920 ∧ Q (.str (toString i)) H
theorem vc_repr : VC rdRepr rInt rStr reprG := fun c F cs H v a d k r1 q Q hQ => by
  cases (show v = _ from r1)
  unfold reprG at q
  split at q
  · rename_i h
    cases q
    exact ⟨a, rfl, h, hQ _ _ _ (Ex.refl _) k rfl⟩
  · cases q
theorem vc_reprP : VC rdRepr (rPay K) rStr reprP := fun c F cs H v a d k r1 q Q hQ => by
  cases a with
  | int i => exact vc_repr c F cs H v i d k r1 q Q hQ
  | tup _ => cases q
  | str _ => cases q
  | rows _ => cases q
end
end Mw

set_option maxHeartbeats 2000000
/-! Mg: defs that are run where no repr is under way; repr of tuples and lists. -/
namespace Mw
open PySem L2 PySem.Spec PyProof.Rows
open Evl (Ex)
/-! ### what such a def promises -/
structure FnG (P : Program) (w : World) (K : PySem.W.Frag) (mg : PySem.Str → Option Value) (base : Heap) (CX : CXT) (k : Nat) (f : Addr) (fd : FuncData) (ps : List PySem.Str) (sp : Sp) : Prop where
  len : ∀ vs H Q E, sp vs H Q E → vs.length = ps.length
  run : ∀ (A : Around) (outer : List Env) (s : Shared) (H : Hp) (args : Args) (us : List Value) (vs : List V) (Q : VK) (E : XK), A.guards = some [] → Room k A → Env0 P w K mg base A outer s H → BindsTo s fd args (ps.zip us) → Vals vs us → sp vs H Q E →
    codeAny (model P w) A (.call (.ref f) args) (CR CX outer P w H s Q E) s
structure CalG (P : Program) (w : World) (K : PySem.W.Frag) (mg : PySem.Str → Option Value) (base : Heap) (k : Nat) (x : PySem.Str) (ps : List PySem.Str) (sp : Sp) (X : FuncData → Prop) : Prop where
  ex : ∃ f fd, FnG P w K mg base CX0 k f fd ps sp ∧ mg x = some (.ref f) ∧ PySem.W.keepIn K (.ref f) = true ∧ Binds K fd ps [] ∧ X fd
section
variable {P : Program} {w : World} {K : PySem.W.Frag} {mg : PySem.Str → Option Value} {base : Heap} {CX : CXT} {k : Nat} {f : Addr} {fd : FuncData} {ps : List PySem.Str} {sp : Sp}
theorem toG (F : FnOk P w K mg base CX k f fd ps sp) : FnG P w K mg base CX k f fd ps sp :=
  ⟨F.len, fun A outer s H args us vs Q E _ hr he hb hv hs => F.run A outer s H args us vs Q E hr he hb hv hs⟩
theorem okG_of {x qual : PySem.Str} {params : Arguments} {body : List Stmt} {scope : Scope} {dvs : List V} {kws : List (PySem.Str × V)} {N : List PySem.Str} (F : FunD K x qual params body scope dvs kws f fd) (S : FnScope N ps scope)
    (len : ∀ vs H Q E, sp vs H Q E → vs.length = ps.length)
    (hbody : ∀ (cdv : Value) (A : Around) (outer : List Env) (s : Shared) (H : Hp) (vs : List V) (Q : VK) (E : XK), Room k (A.deeper (envOfC qual scope s.heap.objs.size f cdv)) → A.guards = some [] → sp vs H Q E →
      ∃ t, PSs (cxOf CX P w K mg base N qual scope f cdv A outer s H E) body t ∧ t { nx := fun _ H' => Q .non H', rt := Q } (L2.start N vs) H) : FnG P w K mg base CX (k + 1) f fd ps sp := by
  obtain ⟨oc, od, dV, kV, doc, pm, an, cdv, ct, osl, rfl, lk, hcd, _, _⟩ := F.ex
  refine ⟨len, fun A outer s H args us vs Q E hg hr e0 hb r hsp => ?_⟩
  have kp : ∀ b o, base.get? b = some o → s.heap.get? b = some o := fun b o e => (e0.bs b o e).1
  have kinds : ∀ y ∈ ps.zip us, scope.names.lookup y.1 = some .local ∨ (scope.names.lookup y.1 = some .cell ∧ ((cellsFrom (s.heap.objs.size + 1) scope.names []).lookup y.1).isSome = true) := fun ⟨n, v⟩ hy =>
    (S.par n (List.of_mem_zip hy).1).elim .inl fun q => .inr ⟨q, PySem.W.cellsFrom_some _ _ _ (.inl q)⟩
  refine codeAny_call_function hr.depth (e0.mod.kin.keeps kp _ _ lk) rfl S.co S.gen rfl (PySem.W.codeRec_of (e0.mod.kin.keeps kp) hcd) (hb _ _ _ _ ?_)
  refine wpAny_newFunctionEnv_cells S.kind kinds fun env he s1 x => ?_
  subst he
  refine ⟨(e0.mod.nolimit.keeps kp).keeps x.toInCall.keep, codeAny_func ?_⟩
  obtain ⟨t, ht, hq⟩ := hbody cdv A outer s H vs Q E (hr.deeper _) hg hsp
  have I := inv_start (CX := CX) (P := P) (w := w) (E := E) (qual := qual) (f := f) (cd := cdv) S hr.hd e0 (len _ _ _ _ hsp) r x
  refine wpAny_mono (ht.run [] s1 (L2.start N vs) H _ I hq) (fun fl s' hs => ?_) fun e s' hs => hs
  cases fl with
  | ret u => exact let ⟨v, _, H', J, rv, q⟩ := hs; ⟨v, H', J.os, J.bare, J.base, J.hok, rv, q⟩
  | next => exact let ⟨_, H', J, q⟩ := hs; ⟨V.non, H', J.os, J.bare, J.base, J.hok, (rfl : Value.none = Value.none), q⟩
  | brk => exact let ⟨_, _, _, q⟩ := hs; q.elim
  | cont => exact let ⟨_, _, _, q⟩ := hs; q.elim
end
section
variable {X : Cx} {CX : CXT} {k : Nat} {f : Addr} {fd : FuncData} {ps : List PySem.Str} {sp : Sp} {dvs : List V} {ds : List Value} {E : XK} {x : PySem.Str} {p pos : Pos} {e : Expr} {es : List Expr} {ta : TE} {t : TA}
theorem run_fnG {pins : List (Addr × Obj)} {σ : L2.St} {H : Hp} {s : Shared} {Q : VK} {us : List Value} {vs : List V} (hgd : X.A.guards = some []) (F : FnG X.prog X.w X.K X.mg X.base CX k f fd ps sp) (hr : Room k X.A) (hb : Binds X.K fd ps ds) (hd : Vals dvs ds) (hx : Passes CX X E)
    (I : Inv X pins σ H s) (r : Vals vs us) (h : sp (vs ++ dvs) H Q E) : wpAny (model X.prog X.w) X.A (call (.ref f) us) (EP X pins σ Q) X.xe s := by
  have r2 := r.append hd
  refine wpAny_call (codeAny_mono (F.run X.A X.stack s H ⟨us, []⟩ (us ++ ds) (vs ++ dvs) Q E hgd hr I.env0 (hb s us I.kIn (by rw [← r2.length]; exact F.len _ _ _ _ h)) r2 h) fun r s' hq => ?_)
  cases r with
  | error e => exact hx pins σ H s e s' I hq
  | ok fl =>
    cases fl with
    | ret u => exact I.after hq
    | next => exact hq.elim
    | brk => exact hq.elim
    | cont => exact hq.elim
theorem pe_callG (hgd : X.A.guards = some []) (F : FnG X.prog X.w X.K X.mg X.base CX k f fd ps sp) (hr : Room k X.A) (hg : Gl X x) (hm : X.mg x = some (.ref f)) (hk : PySem.W.keepIn X.K (.ref f) = true) (hb : Binds X.K fd ps ds) (hd : Vals dvs ds) (hx : Passes CX X E)
    (ha : PA X (e :: es) t) (hdb : (x == ("__debug__" : PySem.Str)) = false := by decide) (he : starEach (e :: es) X.env = (false, eval e X.env) :: starEach es X.env := by rfl) (hpl : (backTo pos (starEach es X.env)).any (·.1) = false := by rfl) :
    PE X (.Call (.Name x p) (e :: es) [] pos) (tCall sp dvs E t) := by
  refine ⟨fun pins s σ H Q I h => ?_⟩
  refine wpAny_Call_Name_kw (ld_glob I hg hm ?_ hdb)
  exact PySem.W.callWith_K (h₀ := X.base) I.ok.mod.kin hk (thn (ha.run pos pins s σ H _ I h) fun us s1 ⟨vs, H1, I1, r, q⟩ => ⟨I1.kIn, run_fnG hgd F hr hb hd hx I1 r q⟩) he hpl
theorem pe_callG0 (hgd : X.A.guards = some []) (F : FnG X.prog X.w X.K X.mg X.base CX k f fd ps sp) (hr : Room k X.A) (hg : Gl X x) (hm : X.mg x = some (.ref f)) (hk : PySem.W.keepIn X.K (.ref f) = true) (hb : Binds X.K fd ps ds) (hd : Vals dvs ds) (hx : Passes CX X E)
    (hdb : (x == ("__debug__" : PySem.Str)) = false := by decide) : PE X (.Call (.Name x p) [] [] pos) (tCall sp dvs E tNil) := by
  refine ⟨fun pins s σ H Q I h => ?_⟩
  refine wpAny_Call_Name_kw (ld_glob I hg hm ?_ hdb)
  exact PySem.W.callWith_K0 I.kIn hk (run_fnG (us := []) hgd F hr hb hd hx I .nil h)
end
/-! ### the head -/
section
variable {P : Program} {w : World} {K : PySem.W.Frag} {mg mb : PySem.Str → Option Value} {CX : CXT} {k : Nat} {fa a : Addr} {fd : FuncData} {x : PySem.Str} {sp : Sp} {s₁ : Shared} {vs : List Value} {ns : List Int}
theorem core_callG (KX : K.In s₁.heap) (hns : s₁.heap.Ns mainGlobals mg) (hb : s₁.heap.Ns builtinsNs mb) (hbb : ∀ x : PySem.Str, x ≠ "__name__" → mb x = bootBuiltins x) (hlim : s₁.heap.NoLimit) (hg : s₁.gens = #[])
    (ha : s₁.heap.get? a = some { cls := .type "list", data := .seq vs.toArray }) (hr : Room k callerA)
    (F : ∀ base : Heap, K.In base → base.Ns mainGlobals mg → FnG P w K mg base CX k fa fd [x] sp) (hbind : ∀ (s : Shared) (u : Value), BindsTo s fd ⟨[u], []⟩ [(x, u)])
    (hCX : ∀ H e s', CX [] H s₁ (fun _ _ _ => False) e s' → False) {H : Hp} (hO : Only H) (hsp : sp [.ref a] H (fun v _ => v = .bl true) fun _ _ _ => False) (hok : HOk P w H s₁.heap) (hA : ∀ b, H b ≠ none → b = a) (hK : H a ≠ none → K.lookup a = none) :
    codeAny (model P w) callerA (.call (.ref fa) ⟨[.ref a], []⟩) (fun r s' => r = .ok (.ret (.bool true)) ∧ OldK s₁.heap s'.heap ∧ s'.os = s₁.os ∧ AllBare s'.gens) s₁ := by
  have dict_free : ∀ {b : Addr} {o : Obj} {es : Array DictEntry} {n : Nat}, s₁.heap.get? b = some o → o.data = .dict es n → H b = none := fun {b o es n} e d => by
    refine Classical.byContradiction fun q => ?_
    have eb := hA b q
    rw [eb, ha] at e
    cases e
    cases d
  have up : ∀ {b : Addr} {m : PySem.Str → Option Value}, s₁.heap.Ns b m → (hidT s₁.heap H).Ns b m := fun ⟨o, es, ep, e, d, r⟩ => ⟨o, es, ep, hidT_get e (dict_free e d), d, r⟩
  have hKb : K.In (hidT s₁.heap H) := fun b o e => hidT_get (KX b o e) (Classical.byContradiction fun q => by
    have eb := hA b q
    rw [eb] at q e
    rw [hK q] at e
    cases e)
  have hM : Mod K mg (hidT s₁.heap H) := ⟨hKb, up hns, ⟨mb, up hb, hbb⟩, let ⟨mc, h1, h2⟩ := hlim; ⟨mc, up h1, h2⟩⟩
  have e0 : Env0 P w K mg (hidT s₁.heap H) callerA [] s₁ H := ⟨rfl, hM, fun b o e => of_hidT e, Nat.le_of_eq (hidT_size _ _), trivial, fun b hb => absurd (show b ∈ ([] : List Addr) from hb) (by simp), hok, .of_eq hg⟩
  refine codeAny_mono ((F _ hKb (up hns)).run callerA [] s₁ H ⟨[.ref a], []⟩ [.ref a] [.ref a] _ _ rfl hr e0 (hbind s₁ (.ref a)) (.cons rfl .nil) hsp) fun r s' h => ?_
  cases r with
  | error e => exact (hCX H e s' h).elim
  | ok fl =>
    cases fl with
    | next => exact h.elim
    | brk => exact h.elim
    | cont => exact h.elim
    | ret u =>
      obtain ⟨v, H', os, bare, un, hok', r', q⟩ := h
      cases (show v = .bl true from q)
      obtain rfl : u = Value.bool true := r'
      refine ⟨rfl, OldK.of_keep fun b o e => ?_, os, bare⟩
      rcases hO b with z | ⟨ob, xs, z⟩
      · exact un.keep b o e z (fun y => absurd (show b ∈ ([] : List Addr) from y) (by simp)) (by simp)
      · have h1 := (hok b _ z).1
        have h2 := (hok' b _ (un.frzs b ob _ z)).1
        rw [e] at h1
        cases h1
        exact h2
theorem law_callG (KX : K.In s₁.heap) (hns : s₁.heap.Ns mainGlobals mg) (hb : s₁.heap.Ns builtinsNs mb) (hbb : ∀ x : PySem.Str, x ≠ "__name__" → mb x = bootBuiltins x) (hlim : s₁.heap.NoLimit) (hg : s₁.gens = #[])
    (ha : s₁.heap.get? a = some { cls := .type "list", data := .seq vs.toArray }) (hi : IntsAre vs ns) (hl : ns.length ≤ sizeLine) (hr : Room k callerA)
    (F : ∀ base : Heap, K.In base → base.Ns mainGlobals mg → FnG P w K mg base CX k fa fd [x] sp) (hbind : ∀ (s : Shared) (u : Value), BindsTo s fd ⟨[u], []⟩ [(x, u)])
    (hsp : ∀ H : Hp, Only H → SqL K H a (ns.map V.int) → sp [.ref a] H (fun v _ => v = .bl true) fun _ _ _ => False)
    (hCX : ∀ H e s', CX [] H s₁ (fun _ _ _ => False) e s' → False) :
    codeAny (model P w) callerA (.call (.ref fa) ⟨[.ref a], []⟩) (fun r s' => r = .ok (.ret (.bool true)) ∧ OldK s₁.heap s'.heap ∧ s'.os = s₁.os ∧ AllBare s'.gens) s₁ := by
  have rv := vals_ints hi
  cases hk : K.lookup a with
  | some o =>
    have e := KX a o hk
    rw [ha] at e
    cases e
    have n0 : ∀ b, ¬ (fun _ => none : Hp) b ≠ none := fun b z => z rfl
    exact core_callG KX hns hb hbb hlim hg ha hr F hbind hCX (H := fun _ => none) (fun _ => .inl rfl) (hsp _ (fun _ => .inl rfl) (.inr ⟨_, vs.toArray, _, hk, rfl, rfl, rfl, by rw [List.size_toArray, hi.length]; exact hl, by simpa using rv⟩)) (fun b u z => nomatch z) (fun b z => (n0 b z).elim) fun z => (n0 a z).elim
  | none =>
    have at_ : ∀ {b : Addr} {u : HO}, (if b = a then some (HO.frz { cls := .type "list", data := .seq vs.toArray } (.lst (ns.map V.int))) else none) = some u → b = a ∧ u = .frz { cls := .type "list", data := .seq vs.toArray } (.lst (ns.map V.int)) := fun {b u} z => by
      by_cases hb : b = a
      · exact ⟨hb, (Option.some.inj ((if_pos hb).symm.trans z)).symm⟩
      · cases (if_neg hb).symm.trans z
    have hO : Only fun b => if b = a then some (.frz { cls := .type "list", data := .seq vs.toArray } (.lst (ns.map V.int))) else none := fun b => by
      by_cases hb : b = a
      · exact .inr ⟨_, _, if_pos hb⟩
      · exact .inl (if_neg hb)
    refine core_callG KX hns hb hbb hlim hg ha hr F hbind hCX hO (hsp _ hO (.inl (.inr ⟨_, if_pos rfl⟩))) (fun b u z => ?_) (fun b z => ?_) fun _ => hk
    · obtain ⟨rfl, rfl⟩ := at_ z
      exact ⟨ha, by rw [List.length_map]; exact hl, vs, _, rv, ha⟩
    · exact Classical.byContradiction fun hb => z (if_neg hb)
end
theorem walk_ofG {l : PySem.W.OpenLaw} {n k : Nat} {q : Program} {loose : List PySem.Str} {XP : (PySem.Str → Option Value) → Heap → Prop} {YP : World → Heap → Prop} {d : DefRec} {CX : CXT} {x : PySem.Str}
    (hn : l.most = some n) (hn2 : n ≤ sizeLine) (hdf : d.params.defaults = []) (hr : Room k callerA)
    (F : ∀ (w : World) (mg : PySem.Str → Option Value) (fa : Addr) (h : Heap), YP w h → h.Ns mainGlobals mg → mg d.name = some (.ref fa) →
      ∃ (K : PySem.W.Frag) (fd : FuncData) (sp : Sp), K.In h ∧ (∀ (s : Shared) (u : Value), BindsTo s fd ⟨[u], []⟩ [(x, u)]) ∧
        (∀ (H : Hp) (a : Addr) (ns : List Int), ns.length ≤ n → Only H → SqL K H a (ns.map V.int) → sp [.ref a] H (fun v _ => v = .bl true) fun _ _ _ => False) ∧
        ∀ base : Heap, K.In base → base.Ns mainGlobals mg → FnG l.prog w K mg base CX k fa fd [x] sp)
    (hCX : ∀ (H : Hp) (s : Shared) (e : Value) (s' : Shared), CX [] H s (fun _ _ _ => False) e s' → False) :
    PySem.W.WalkO q loose XP YP l.row.toRowW d [] (fun f vs => PySem.call f vs) :=
  Att.attach_call hn hdf fun w s₀ s₁ mg mb fa o pm cd doc a vs ns G Y ho hd hcd hmg hobj hints hlen hg => by
    obtain ⟨K, fd, sp, KX, hb, hsp, hF⟩ := F w mg fa _ Y G.T.g hmg
    exact law_callG KX G.T.g G.T.b G.T.builtins G.T.nolimit hg hobj hints (Nat.le_trans hlen hn2) hr hF hb (fun H hO hS => hsp H a ns hlen hO hS) fun H e s' => hCX H s₁ e s'
/-! ### repr of integers, strings, tuples and lists -/
/-- what repr needs of the data -/
def okD (d : PyData) : Bool := d.showable && !d.hasDict && decide (d.shown.length ≤ sizeLine) && decide (d.depth ≤ 40) && match d with
  | .int _ | .tuple _ | .list _ => true
  | .str x => decide ((reprText x).length ≤ sizeLine)
  | _ => false
def reprD (d : PyData) : Option PySem.Str := if okD d = true then some d.shown else none
/-- the data are shown as d -/
def Sh {α : Type} (K : PySem.W.Frag) (ra : Rp α) (d : α → PyData) : Prop := ∀ (P : Program) (w : World) (F H : Hp) (h : Heap) (v : V) (a : α) (u : Value), HOk P w H h → Ex F H → ra.r F v a → RelV v u → ∃ as, Reads h u (d a) as
def rRepr (xs : List V) (H : Hp) (Q : VK) : Prop := ∃ v d, xs = [v] ∧ okD d = true ∧ (∀ (P : Program) (w : World) (h : Heap) (u : Value), HOk P w H h → RelV v u → ∃ as, Reads h u d as) ∧ Q (.str d.shown) H
section
variable {X : Cx} {k : Nat}
theorem call_reprD (hr : Room k X.A) (hgd : X.A.guards = some []) : CallR X (.builtin "repr") rRepr := by
  intro pins s σ H xs us Q I r h
  obtain ⟨v, d, rfl, ok, hR, q⟩ := h
  obtain ⟨u, rfl, ru⟩ := vals1 r
  obtain ⟨as, rd⟩ := hR _ _ _ _ I.hok ru
  unfold okD at ok
  simp only [Bool.and_eq_true, decide_eq_true_eq, Bool.not_eq_true'] at ok
  obtain ⟨⟨⟨⟨hs, hd⟩, sz⟩, hp⟩, hk⟩ := ok
  have un := hr.un
  have hu : X.A.units + (d.depth + 1) < cLine := by omega
  have big : ∀ {a : Addr}, u = .ref a → ∃ v H1, Inv X pins σ H1 s → True := fun _ => ⟨v, H, fun _ => trivial⟩
  cases d with
  | none => cases hk
  | bool b => cases hk
  | dict kvs => cases hk
  | int i =>
    cases rd
    have hs : i.natAbs.log2 < 1920 := by simpa [PyData.showable] using hs
    have e : (PyData.int i).shown = PySem.Str.ofString (toString i) := by simp [PyData.shown]
    rw [e] at q
    exact PySem.P.repr_of_int hs ⟨.str _, H, I.tok _, ⟨_, rfl⟩, q⟩
  | str x =>
    cases rd
    have e : (PyData.str x).shown = reprText x := by simp [PyData.shown]
    rw [e] at q
    exact PySem.P.repr_of_str ⟨.str _, H, I.tok _, ⟨_, rfl⟩, q⟩ (of_decide_eq_true hk)
  | tuple xs =>
    obtain ⟨a, rfl⟩ : ∃ a, u = .ref a := by cases rd; exact ⟨_, rfl⟩
    exact repr_of_reads' rd hs (fun z => by rw [hd] at z; cases z) hgd hu (fun _ _ e => e) (fun h' _ tk kp => ⟨.str _, H, I.kept kp, ⟨_, rfl⟩, q⟩) sz
  | list xs =>
    obtain ⟨a, rfl⟩ : ∃ a, u = .ref a := by cases rd; exact ⟨_, rfl⟩
    exact repr_of_reads' rd hs (fun z => by rw [hd] at z; cases z) hgd hu (fun _ _ e => e) (fun h' _ tk kp => ⟨.str _, H, I.kept kp, ⟨_, rfl⟩, q⟩) sz
end
section
variable {K : PySem.W.Frag} {α β : Type} {ra : Rp α} {rb : Rp β} {d : α → PyData} {db : β → PyData}
theorem sh_int : Sh K rInt .int := fun P w F H h v a u _ _ r ru => by
  cases (show v = _ from r)
  obtain ⟨t, rfl⟩ := (show ∃ t, u = Value.int a t from ru)
  exact ⟨_, .int _ _⟩
theorem sh_str : Sh K rStr .str := fun P w F H h v a u _ _ r ru => by
  cases (show v = _ from r)
  obtain ⟨t, rfl⟩ := (show ∃ t, u = Value.str a t from ru)
  exact ⟨_, .str _ _⟩
theorem sh_all (hd : Sh K ra d) {P : Program} {w : World} {F H : Hp} {h : Heap} (ok : HOk P w H h) (e : Ex F H) : ∀ {vs : List V} {as : List α} {us : List Value}, Rs ra F vs as → Vals vs us → ∃ z, ReadsAll h us (as.map d) z
  | _, _, _, .nil, .nil => ⟨_, .nil⟩
  | _, _, _, .cons r t, .cons r2 t2 =>
    let ⟨_, x⟩ := hd P w F H h _ _ _ ok e r r2
    let ⟨_, y⟩ := sh_all hd ok e t t2
    ⟨_, .cons x y⟩
theorem sh_tup (hd : Sh K ra d) : Sh K (rTup K ra) fun l => .tuple (l.map d) := fun P w F H h v a u ok e r ru => by
  obtain ⟨p, vs, rfl, h1, h2⟩ := r
  cases (show u = Value.ref p from ru)
  obtain ⟨_, its, q1, o, q2, q3, n, q4⟩ := ok p _ (e _ _ h1)
  obtain ⟨z, q⟩ := sh_all hd ok e h2 q1
  exact ⟨_, .tuple q2 q3 q4 (by simpa using q)⟩
theorem sh_lst (hd : Sh K ra d) : Sh K (rLst ra) fun l => .list (l.map d) := fun P w F H h v a u ok e r ru => by
  obtain ⟨p, vs, rfl, h1, h2⟩ := r
  cases (show u = Value.ref p from ru)
  obtain ⟨_, its, n, q1, q2⟩ := ok p _ (e _ _ h1)
  obtain ⟨z, q⟩ := sh_all hd ok e h2 q1
  exact ⟨_, .list q2 rfl rfl (by simpa using q)⟩
def payD : Pay → PyData
  | .int i => .int i
  | .tup l => .tuple (l.map .int)
  | .str s => .str s
  | .rows l => .list (l.map fun r => .list (r.map .int))
theorem sh_pay : Sh K (rPay K) payD := fun P w F H h v a u ok e r ru => by
  cases a with
  | int i => exact sh_int (K := K) P w F H h v i u ok e r ru
  | tup l => exact sh_tup (K := K) sh_int P w F H h v l u ok e r ru
  | str s => exact sh_str (K := K) P w F H h v s u ok e r ru
  | rows l => exact sh_lst (K := K) (sh_lst sh_int) P w F H h v l u ok e r ru
theorem vc_reprD (hd : Sh K ra d) : VC rRepr ra rStr fun a => reprD (d a) := fun c F cs H v a x k r q Q hQ => by
  have q : (if okD (d a) = true then some (d a).shown else none) = some x := q
  split at q
  · rename_i ok
    cases q
    exact ⟨v, d a, rfl, ok, fun P w h u hk ru => hd P w F H h v a u hk k.ex r ru, hQ _ _ _ (Ex.refl _) k rfl⟩
  · cases q
end
/-! what is shown -/
theorem shown_int_le {i : Int} (h : i.natAbs.log2 < 1920) : (PyData.shown (.int i)).length ≤ 1921 := by
  simp only [PyData.shown]
  rw [PySem.ofString_length]
  exact int_text_length_le (k := 1920) (by decide) h
theorem okD_int {i : Int} (h : i.natAbs.log2 < 1920) : okD (.int i) = true := by
  unfold okD
  have e : (PyData.shown (.int i)).length ≤ sizeLine := Nat.le_trans (shown_int_le h) (by decide)
  simp [PyData.showable, PyData.hasDict, PyData.depth, h, e]
theorem showAll : ∀ {l : List Int}, (∀ v ∈ l, v.natAbs.log2 < 1920) → PyData.showableAll (l.map .int) = true ∧ PyData.hasDictAll (l.map .int) = false ∧ ((PyData.shownAll (l.map .int)).map (·.length)).sum ≤ 1921 * l.length ∧ (PyData.shownAll (l.map .int)).length = l.length ∧ PyData.depthAll (l.map .int) = 0
  | [], _ => by simp [PyData.showableAll, PyData.hasDictAll, PyData.shownAll, PyData.depthAll]
  | a :: l, h => by
    have ha := h a (List.mem_cons_self ..)
    have e := shown_int_le ha
    obtain ⟨i1, i2, i3, i4, i5⟩ := showAll fun v hv => h v (List.mem_cons_of_mem _ hv)
    refine ⟨?_, ?_, ?_, ?_, ?_⟩
    · simp [PyData.showableAll, PyData.showable, ha, i1]
    · simp [PyData.hasDictAll, PyData.hasDict, i2]
    · simp only [List.map_cons, PyData.shownAll, List.sum_cons, List.length_cons]
      omega
    · simp only [List.map_cons, PyData.shownAll, List.length_cons, i4]
    · simp [PyData.depthAll, PyData.depth, i5]
theorem okD_tup {l : List Int} (h : ∀ v ∈ l, v.natAbs.log2 < 1920) (hl : l.length ≤ 1000) : okD (.tuple (l.map .int)) = true := by
  obtain ⟨i1, i2, i3, i4, i5⟩ := showAll h
  have e : (PyData.shown (.tuple (l.map .int))).length ≤ sizeLine := by
    have z := tupleText_len_le (PyData.shownAll (l.map .int))
    simp only [PyData.shown]
    unfold sizeLine
    omega
  unfold okD
  simp [PyData.showable, PyData.hasDict, PyData.depth, i1, i2, i5, e]
/-! ### a value of any kind -/
def rAny : Rp Unit := ⟨fun _ _ _ => True, fun _ _ => trivial⟩
section
variable {K : PySem.W.Frag} {L : List PySem.Str} {W : WX} {α : Type} {ra : Rp α} {te : TE} {σ : L2.St} {F : Hp} {cs : Cs}
theorem em_any {m : Option α} (h : EM ra te σ F cs m) : EM rAny te σ F cs (m.map fun _ => ()) := fun d q c F1 H e k Q hQ => by
  cases m with
  | none => cases q
  | some a => exact h a rfl c F1 H e k Q fun v F2 H2 e2 k2 _ => hQ v F2 H2 e2 k2 trivial
theorem ex_any {m : Option (Except Er α)} (h : EMX K L W ra te σ F cs m) : EMX K L W rAny te σ F cs (m.map fun r => r.map fun _ => ()) := fun d q c F1 H e k Q hQ hE => by
  cases m with
  | none => cases q
  | some y =>
    cases q
    refine h y rfl c F1 H e k Q (fun x ex v F2 H2 e2 k2 r2 => ?_) fun er ee cls dd F2 H2 e2 k2 r2 => ?_
    · subst ex
      exact hQ () rfl v F2 H2 e2 k2 trivial
    · subst ee
      exact hE er rfl cls dd F2 H2 e2 k2 r2
end
end Mw

set_option maxHeartbeats 2000000
/-! Mb: own classes: isinstance, ==, the two-place operators. -/
namespace Mw
open PySem L2 PySem.Spec PyProof.Rows
open Evl (Ex)
/-- what isinstance and the operators ask of a class -/
structure InsC (K : PySem.W.Frag) (C : Addr) : Prop where
  cl : Cls K C
  ha : PySem.W.findIn K (.ref C) "__class__" = some (some (.builtin "object.__class__"))
  hn : PySem.W.specialIn K (.builtin "object.__class__") "__get__" = some (some (.builtin "getset_descriptor.__get__"))
  htk : PySem.W.takesIn K (.builtin "object.__class__") = some true
  hm : PySem.W.mroIn K C (.type "object") = some true
  one : PySem.W.kitOne K (.ref C) (.ref C) = some true
  sf : PySem.W.selfFirst K C = true
section
variable {X : Cx} {CX : CXT} {k : Nat} {C g : Addr} {fd : FuncData} {ps : List PySem.Str} {sp : Sp} {dvs : List V} {ds : List Value} {E : XK}
def rEqO (C : Addr) (sp : Sp) (dvs : List V) (E : XK) : R2 := fun x y H Q => ∃ a b dx dy fs gs, x = V.ref a ∧ y = V.ref b ∧ H a = some (.ins C dx fs) ∧ H b = some (.ins C dy gs) ∧ sp (.ref a :: .ref b :: dvs) H (BlQ Q) E
def rBinO (C : Addr) (sp : Sp) (dvs : List V) (E : XK) : R2 := fun x y H Q => ∃ a b dx dy fs gs, x = V.ref a ∧ y = V.ref b ∧ H a = some (.ins C dx fs) ∧ H b = some (.ins C dy gs) ∧ sp (.ref a :: .ref b :: dvs) H Q E
theorem back {pins : List (Addr × Obj)} {σ : L2.St} {Q : VK} {u : Value} {s : Shared} (h : EP X pins σ Q u s) : PySem.W.CmpBack (EP X pins σ Q) u s := by
  obtain ⟨v, H', I, r, q⟩ := h
  have z : u ≠ .notImplemented := fun e => by
    subst e
    cases v <;> first | (cases (show Value.notImplemented = _ from r)) | (obtain ⟨t, e⟩ := r; cases e)
  unfold PySem.W.CmpBack
  cases u <;> first | exact absurd rfl z | exact ⟨v, H', I, r, q⟩
theorem op_eqO (dn : DefOf X.K C "__eq__" g) (F : FnOk X.prog X.w X.K X.mg X.base CX k g fd ps sp) (hr : Room k X.A) (hb : Binds X.K fd ps ds) (hd : Vals dvs ds) (hx : Passes CX X E) : OpR X (compareOp .Eq) (rEqO C sp dvs E) := by
  intro pins s σ H x y v u Q I rx ry h
  obtain ⟨a, b, dx, dy, fs, gs, rfl, rfl, ea, eb, h⟩ := h
  obtain rfl : v = Value.ref a := rx
  obtain rfl : u = Value.ref b := ry
  obtain ⟨mA, O, _, _, _, _⟩ := ins_get I.hok ea
  obtain ⟨od, J, _⟩ := O.look
  obtain ⟨mB, O2, _, _, _, _⟩ := ins_get I.hok eb
  obtain ⟨od2, J2, _⟩ := O2.look
  obtain ⟨m, Fm⟩ := I.fr
  refine PySem.W.cmp_ofEq (PySem.W.cmp_K (op := .Eq) (tb := .ref C) hr.units0 Fm I.ok.mod.kin J J2.type (by simp [PySem.W.notFirst]) dn.at_ dn.fn (wpAny_mono (run_fn F hr hb hd hx I (.cons (show RelV (V.ref a) (Value.ref a) from rfl) (.cons (show RelV (V.ref b) (Value.ref b) from rfl) .nil)) h) (fun r s' hq => ?_) fun _ _ z => z))
  refine back ?_
  obtain ⟨v', H', I', rv, b, rfl, q⟩ := hq
  exact ⟨_, H', I', rv, q⟩
theorem op_binO {op : Operator} {nm : PySem.Str} (en : PySem.dunder op.info.2 = nm) (ic : InsC X.K C) (dn : DefOf X.K C nm g) (F : FnOk X.prog X.w X.K X.mg X.base CX k g fd ps sp) (hr : Room k X.A) (hb : Binds X.K fd ps ds) (hd : Vals dvs ds) (hx : Passes CX X E) : OpR X (binaryOp op) (rBinO C sp dvs E) := by
  subst en
  intro pins s σ H x y v u Q I rx ry h
  obtain ⟨a, b, dx, dy, fs, gs, rfl, rfl, ea, eb, h⟩ := h
  obtain rfl : v = Value.ref a := rx
  obtain rfl : u = Value.ref b := ry
  obtain ⟨mA, O, _, _, _, _⟩ := ins_get I.hok ea
  obtain ⟨od, J, _⟩ := O.look
  obtain ⟨mB, O2, _, _, _, _⟩ := ins_get I.hok eb
  obtain ⟨od2, J2, _⟩ := O2.look
  obtain ⟨m, Fm⟩ := I.fr
  refine PySem.W.binop_K Fm I.ok.mod.kin J J2.type ic.sf dn.at_ dn.fn (wpAny_mono (run_fn F hr hb hd hx I (.cons (show RelV (V.ref a) (Value.ref a) from rfl) (.cons (show RelV (V.ref b) (Value.ref b) from rfl) .nil)) h) (fun r s' hq => back hq) fun _ _ z => z)
end
section
variable {ω α : Type} {ro rr : Rp ω} {ra : Rp α} {C : Addr} {E : XK} {K : PySem.W.Frag} {σ : L2.St} {F : Hp} {cs : Cs} {te : TE}
theorem vo_eqO {g : ω → ω → Option Bool} (ho : ObjP C ro) : VO (rEqO C (Psp2 ro ro rBool g) [] E) ro ro rBool g := fun c F cs H x y a b d k r1 r2 q Q hQ => by
  obtain ⟨p, dx, fs, rfl, g1⟩ := ho _ _ _ r1
  obtain ⟨p2, dy, gs, rfl, g2⟩ := ho _ _ _ r2
  refine ⟨p, p2, dx, dy, fs, gs, rfl, rfl, k.ex _ _ g1, k.ex _ _ g2, ?_⟩
  exact ⟨F, .ref p, .ref p2, a, b, d, rfl, k.ex, r1, r2, q, fun v F9 H9 k9 r9 => ⟨d, r9, r9 ▸ hQ v F9 H9 k9.fz (k.call0 k9) r9⟩⟩
theorem vo_binO {g : ω → ω → Option α} (ho : ObjP C ro) : VO (rBinO C (Psp2 ro ro ra g) [] E) ro ro ra g := fun c F cs H x y a b d k r1 r2 q Q hQ => by
  obtain ⟨p, dx, fs, rfl, g1⟩ := ho _ _ _ r1
  obtain ⟨p2, dy, gs, rfl, g2⟩ := ho _ _ _ r2
  refine ⟨p, p2, dx, dy, fs, gs, rfl, rfl, k.ex _ _ g1, k.ex _ _ g2, ?_⟩
  exact ⟨F, .ref p, .ref p2, a, b, d, rfl, k.ex, r1, r2, q, fun v F9 H9 k9 r9 => hQ v F9 H9 k9.fz (k.call0 k9) r9⟩
/-- isinstance(e, C) of an object of C -/
theorem em_isO {m : Option ω} (ho : ObjP C ro) (ic : InsC K C) (h : EM ro te σ F cs m) : EM rBool (tCB (rIsi K) (tCons te (tCons (tC (.ref C)) tNil))) σ F cs (m.map fun _ => true) := fun d q c F1 H e k Q hQ => by
  cases m with
  | none => cases q
  | some a =>
    cases q
    refine h a rfl c F1 H e k _ fun v F2 H2 e2 k2 r2 => ?_
    obtain ⟨p, dx, fs, rfl, g1⟩ := ho _ _ _ r2
    exact ⟨.ref p, .ref C, .ref C, .ref C, true, rfl, .own C, .base (.ins (k2.ex _ _ g1) ic.cl ic.ha ic.hn ic.htk ic.hm), ic.one, hQ _ F2 H2 e2 k2 rfl⟩
end
/-! ### operators that may raise -/
section
variable {X : Cx} {CX : CXT} {k : Nat} {C g : Addr} {fd : FuncData} {ps : List PySem.Str} {sp : Sp} {E : L2.St → XK} {a b : Expr} {pos : Pos} {ta tb : TE}
def tBinS (C : Addr) (sp : Sp) (E : L2.St → XK) (ta tb : TE) : TE := fun σ H Q => ta σ H fun x H1 => tb σ H1 fun y H2 => rBinO C sp [] (E σ) x y H2 Q
theorem pe_binS {op : Operator} {nm : PySem.Str} (en : PySem.dunder op.info.2 = nm) (ic : InsC X.K C) (dn : DefOf X.K C nm g) (F : FnOk X.prog X.w X.K X.mg X.base CX k g fd ps sp) (hr : Room k X.A) (hb : Binds X.K fd ps []) (hx : ∀ σ, PassesAt CX X σ (E σ)) (ha : PE X a ta) (hb' : PE X b tb) : PE X (.BinOp a op b pos) (tBinS C sp E ta tb) := by
  subst en
  refine ⟨fun pins s σ H Q I h => ?_⟩
  refine wpAny_BinOp (binT (R := fun x y H2 => rBinO C sp [] (E σ) x y H2 Q) ha hb' I h fun v u s2 x y H2 I2 rx ry q => ?_)
  obtain ⟨a, b, dx, dy, fs, gs, rfl, rfl, ea, eb, h⟩ := q
  obtain rfl : v = Value.ref a := rx
  obtain rfl : u = Value.ref b := ry
  obtain ⟨mA, O, _, _, _, _⟩ := ins_get I2.hok ea
  obtain ⟨od, J, _⟩ := O.look
  obtain ⟨mB, O2, _, _, _, _⟩ := ins_get I2.hok eb
  obtain ⟨od2, J2, _⟩ := O2.look
  obtain ⟨m, Fm⟩ := I2.fr
  exact PySem.W.binop_K Fm I2.ok.mod.kin J J2.type ic.sf dn.at_ dn.fn (wpAny_mono (run_fnS F hr hb (hx σ) I2 (.cons (show RelV (V.ref a) (Value.ref a) from rfl) (.cons (show RelV (V.ref b) (Value.ref b) from rfl) .nil)) h) (fun r s' hq => back hq) fun _ _ z => z)
end
section
variable {K : PySem.W.Frag} {L : List PySem.Str} {W : WX} {ω ρ : Type} {ro : Rp ω} {rr : Rp ρ} {C : Addr} {ta tb : TE} {σ : L2.St} {F : Hp} {cs : Cs} {m : ω × ω × Unit → Option (Except Er ρ)} {m0 m1 : Option ω}
theorem ex_bin (ho : ObjP C ro) (h0 : EM ro ta σ F cs m0) (h1 : EM ro tb σ F cs m1) : EMX K L W rr (tBinS C (Xsp K L (gpC ro (gpC ro gpN)) rr m) (WE W) ta tb) σ F cs (m0.bind fun a => m1.bind fun b => m (a, b, ())) := fun d q c F0 H0 e0 k0 Q hQ hE => by
  obtain ⟨a, q1, q⟩ := bind_some q
  obtain ⟨b, q2, q3⟩ := bind_some q
  refine h0 a q1 c F0 H0 e0 k0 _ fun v F1 H1 e1 k1 x1 => h1 b q2 c F1 H1 (e0.trans e1) k1 _ fun u F2 H2 e2 k2 x2 => ?_
  have x1 := ro.up e2 x1
  obtain ⟨p, dx, fs, rfl, g1⟩ := ho _ _ _ x1
  obtain ⟨p2, dy, gs, rfl, g2⟩ := ho _ _ _ x2
  refine ⟨p, p2, dx, dy, fs, gs, rfl, rfl, k2.ex _ _ g1, k2.ex _ _ g2, ?_⟩
  exact ⟨F2, (a, b, ()), d, k2.ex, ⟨_, _, rfl, x1, _, _, rfl, x2, rfl⟩, q3, fun x ex v F9 H9 k9 r9 => hQ x ex v F9 H9 ((e1.trans e2).trans k9.fz) (k2.call0 k9) r9, fun er ee cls dd F9 H9 k9 r9 => hE er ee cls dd F9 H9 ((e1.trans e2).trans k9.fz) (k2.call0 k9) r9⟩
theorem em_Xbin (ho : ObjP C ro) (h0 : EM ro ta σ F cs m0) (h1 : EM ro tb σ F cs m1) : EM rr (tOp (rBinO C (Xsp K L (gpC ro (gpC ro gpN)) rr m) [] E0) ta tb) σ F cs ((m0.bind fun a => m1.bind fun b => m (a, b, ())).bind okG) := fun d q c F0 H0 e0 k0 Q hQ => by
  obtain ⟨y, q0, q9⟩ := bind_some q
  obtain ⟨a, q1, q⟩ := bind_some q0
  obtain ⟨b, q2, q3⟩ := bind_some q
  refine h0 a q1 c F0 H0 e0 k0 _ fun v F1 H1 e1 k1 x1 => h1 b q2 c F1 H1 (e0.trans e1) k1 _ fun u F2 H2 e2 k2 x2 => ?_
  have x1 := ro.up e2 x1
  obtain ⟨p, dx, fs, rfl, g1⟩ := ho _ _ _ x1
  obtain ⟨p2, dy, gs, rfl, g2⟩ := ho _ _ _ x2
  refine ⟨p, p2, dx, dy, fs, gs, rfl, rfl, k2.ex _ _ g1, k2.ex _ _ g2, ?_⟩
  cases y with
  | error _ => cases q9
  | ok y =>
    cases q9
    refine ⟨F2, (a, b, ()), _, k2.ex, ⟨_, _, rfl, x1, _, _, rfl, x2, rfl⟩, q3, fun x ex v F9 H9 k9 r9 => ?_, fun er ee => by cases ee⟩
    cases ex
    exact hQ v F9 H9 ((e1.trans e2).trans k9.fz) (k2.call0 k9) r9
end
theorem gb2 {α β γ : Type} {f : α → β → Option γ} {m0 : Option α} {m1 : Option β} : (m0.bind fun a => m1.bind fun b => f a b) = o2 f m0 m1 := by
  cases m0 with
  | none => rfl
  | some a => cases m1 <;> rfl
structure CalOX (P : Program) (w : World) (K : PySem.W.Frag) (mg : PySem.Str → Option Value) (base : Heap) (k : Nat) (C : Addr) (m : PySem.Str) (ps : List PySem.Str) (sp : Sp) (X : FuncData → Prop) : Prop where
  ex : ∃ f fd, FnOk P w K mg base (L2.CX P w) k f fd ps sp ∧ DefOf K C m f ∧ Binds K fd ps [] ∧ X fd
end Mw
namespace Hm
open PySem PySem.Spec PyProof.Rows L2 He Mw
def insB (x : Str) : Fc := fun K => eqO (PySem.W.findIn K (.ref (ga K x)) "__class__") (some (some (.builtin "object.__class__"))) && eqO (PySem.W.specialIn K (.builtin "object.__class__") "__get__") (some (some (.builtin "getset_descriptor.__get__"))) &&
  (PySem.W.takesIn K (.builtin "object.__class__") == some true) && (PySem.W.mroIn K (ga K x) (.type "object") == some true) && (PySem.W.kitOne K (.ref (ga K x)) (.ref (ga K x)) == some true) && PySem.W.selfFirst K (ga K x)
theorem insO_ok {K : PySem.W.Frag} {x : Str} (cl : Cls K (ga K x)) (c : insB x K = true) : InsC K (ga K x) := by
  obtain ⟨c, c6⟩ := ba c
  obtain ⟨c, c5⟩ := ba c
  obtain ⟨c, c4⟩ := ba c
  obtain ⟨c, c3⟩ := ba c
  obtain ⟨c1, c2⟩ := ba c
  exact ⟨cl, eqO_ok c1, eqO_ok c2, eq_of_beq c3, eq_of_beq c4, eq_of_beq c5, c6⟩
end Hm

set_option maxHeartbeats 2000000
/-! Mc: the keys of a dict as a list. -/
namespace Mw
open PySem L2 PySem.Spec PyProof.Rows
open Evl (Ex)
section
variable {c : Act} {F H : Hp} {cs : Cs} {b : Addr} {vs : List V} {K : PySem.W.Frag}
/-- a tuple of the heap, frozen from now on -/
theorem Cov.seeT (k : Cov c F cs H) (h : H b = some (.tup vs)) : ∃ F', Ex F F' ∧ Cov c F' cs H ∧ F' b = some (.tup vs) := by
  cases f : F b with
  | some o =>
    have := k.ex _ _ f
    rw [h] at this
    cases this
    exact ⟨F, Ex.refl F, k, f⟩
  | none =>
    refine ⟨upd F b (.tup vs), Ex.new f, ⟨fun a u e => ?_, k.fz.trans (Ex.new f), fun y hy => ?_, k.nd, k.keep, fun a u e => ?_, k.dom, k.pt⟩, upd_same⟩
    · by_cases q : a = b
      · subst q; rw [upd_same] at e; cases e; exact h
      · rw [upd_ne q] at e; exact k.ex _ _ e
    · obtain ⟨h1, h2, o, h3, h4⟩ := k.cell y hy
      have ne : y.1 ≠ b := fun z => by
        rw [z, h] at h3
        cases h3
        exact (y.2.nt h4).elim
      exact ⟨by rw [upd_ne ne]; exact h1, h2, o, h3, y.2.up (Ex.new f) h4⟩
    · by_cases q : a = b
      · subst q
        rw [upd_same] at e
        cases e
        cases z : c.H0 a with
        | none => exact .inr (.inl rfl)
        | some u =>
          by_cases hb : a ∈ c.ps
          · obtain ⟨w, z1, z2⟩ := k.pt a hb
            rw [h] at z1
            cases z1
            exact z2.elim
          · have := k.keep a u hb z
            rw [h] at this
            cases this
            exact .inr (.inr ⟨vs, rfl, rfl⟩)
      · rw [upd_ne q] at e
        exact k.nw a u e
theorem rs_key : ∀ {F : Hp} (k : List Int), Rs rInt F ((kI k).map kV) k
  | _, [] => .nil
  | _, _ :: k => .cons rfl (rs_key k)
variable {β : Type} {rb : Rp β}
theorem Cov.seeKeys {kvs : List (List L2.Key × V)} {bs : List Addr} (hk : IsKeys H kvs bs) : ∀ {F : Hp} {ds : List (List Int × β)}, Cov c F cs H → Rkv rb F kvs ds → ∃ F', Ex F F' ∧ Cov c F' cs H ∧ Rs (rTup K rInt) F' (bs.map V.ref) (ds.map fun d => d.1) := by
  unfold IsKeys at hk
  induction hk with
  | nil => intro F ds k r; cases r; exact ⟨F, Ex.refl F, k, .nil⟩
  | @cons p b ps bs hp t ih =>
    intro F ds k r
    cases r with
    | @cons _ d _ ds r rt =>
      rw [r.1] at hp
      obtain ⟨F1, e1, k1, f1⟩ := k.seeT hp
      obtain ⟨F2, e2, k2, r2⟩ := ih k1 (Rkv.up e1 rt)
      exact ⟨F2, e1.trans e2, k2, .cons ⟨b, _, rfl, e2 _ _ f1, rs_key d.1⟩ r2⟩
def rListD : List V → Hp → VK → Prop := fun xs H Q => ∃ d kvs, xs = [V.ref d] ∧ Rd H d (.dT kvs) ∧ ∀ p bs, H p = none → IsKeys H kvs bs → Q (.ref p) (upd H p (.lst (bs.map V.ref)))
theorem cr_listD {X : Cx} (hc : X.calm = true) : CallR X (.type "list") rListD := call_list_dT hc
theorem ef_listD {td : TE} {σ : L2.St} {md : Option (List (List Int × β))} (h : ED rb td σ F cs md) : EF (rTup K rInt) (tCB rListD (tCons td tNil)) σ F cs (md.map fun d => d.map fun x => x.1) := fun d q c F1 H e k Q hQ => by
  cases md with
  | none => cases q
  | some ds =>
    cases q
    refine h ds rfl c F1 H e k _ fun v F2 H2 e2 k2 r2 => ?_
    obtain ⟨p, kvs, rfl, h1, h2⟩ := r2.see k2
    refine ⟨p, kvs, rfl, .inl h1, fun l bs hl hk => ?_⟩
    obtain ⟨F3, e3, k3, r3⟩ := k2.seeKeys (K := K) hk h2
    exact hQ l F3 _ (e2.trans e3) (k3.own hl ⟨_, rfl, r3⟩) (k3.dom l hl)
end
/-! ### [e for x in l if t], the test changes a cell -/
def sMapT {α β γ : Type} (t : α → γ → Option (Bool × γ)) (f : α → γ → Option (β × γ)) : List α → γ → Option (List β × γ)
  | [], s => some ([], s)
  | a :: l, s => sC (t a s) fun b s => if b = true then sC (f a s) fun x s => sC (sMapT t f l s) fun r s => some (x :: r, s) else sMapT t f l s
def sLcT {α β γ : Type} (t : α → γ → Option (Bool × γ)) (f : α → γ → Option (β × γ)) (l : List α) (s : γ) : Option (List β × γ) := if l.length ≤ 16000000 then sMapT t f l s else none
section
variable {α β γ : Type} {ra : Rp α} {rb : Rp β} {σ : L2.St} {F H : Hp} {cs : γ → Cs} {K : PySem.W.Frag} {te : TE} {wi : TI} {g : TG} {tt : TT} {vs : List Nat}
theorem sMapT_drop {t : α → γ → Option (Bool × γ)} {f : α → γ → Option (β × γ)} {ds : List α} {i : Nat} {d : α} {s : γ} (h : ds[i]? = some d) :
    sMapT t f (ds.drop i) s = sC (t d s) fun b s => if b = true then sC (f d s) fun x s => sC (sMapT t f (ds.drop (i + 1)) s) fun r s => some (x :: r, s) else sMapT t f (ds.drop (i + 1)) s := by
  obtain ⟨h1, h2⟩ := List.getElem?_eq_some_iff.mp h
  rw [List.drop_eq_getElem_cons h1, h2] <;> rfl
theorem sf_lcT {s : γ} {m : Option (List α)} {t : α → γ → Option (Bool × γ)} {f : α → γ → Option (β × γ)} {S : α → Hp → L2.St → Prop} (hw : EI ra wi σ F (cs s) m) (hg : GT g ra K (wipe σ vs) S) (hs : ∀ d F σ2, S d F σ2 → wipe σ2 vs = wipe σ vs)
    (ht : ∀ d F1 σ2 s, Ex F F1 → S d F1 σ2 → ST tt σ2 F1 (cs s) (t d s) cs) (he : ∀ d F1 σ2 s, Ex F F1 → S d F1 σ2 → SM rb te σ2 F1 (cs s) (f d s) cs) (hps : ∀ s s2, (cs s).map (·.1) = (cs s2).map (·.1)) :
    SF rb (tLc wi g tt te vs) σ F (cs s) (m.bind fun l => sLcT t f l s) cs := fun r sE q c F1 H1 e1 k1 Q hQ => by
  obtain ⟨ds, q1, q2⟩ := bind_some q
  unfold sLcT at q2
  split at q2
  case isFalse => cases q2
  rename_i hlen
  refine hw ds q1 c F1 H1 e1 k1 _ fun J F2 H2 e2 k2 G => fun D hD => ?_
  have hD0 := k2.dom D hD
  refine ⟨fun i m H => m = ds.length - i ∧ i ≤ ds.length ∧ ∃ F' acc rest s', Ex F2 F' ∧ sMapT t f (ds.drop i) s' = some (rest, sE) ∧ r = acc ++ rest ∧ acc.length ≤ i ∧ Cov c F' (cs s' ++ [(D, cLst rb acc)]) H,
    ⟨ds.length, by simp, Nat.zero_le _, F2, [], r, s, Ex.refl _, q2, rfl, Nat.le_refl _, k2.own hD ⟨[], rfl, .nil⟩⟩, ?_⟩
  rintro i m H ⟨rfl, hi, F', acc, rest, s', e3, hr, eq, la, k3⟩
  by_cases hlt : i < ds.length
  · have hd : ds[i]? = some ds[i] := by simp [hlt]
    obtain ⟨g1, g2⟩ := G.go i _ hd c F' _ H e3 k3
    refine .inr ⟨g1, fun H => ∃ F' acc rest s', Ex F2 F' ∧ sMapT t f (ds.drop (i + 1)) s' = some (rest, sE) ∧ r = acc ++ rest ∧ acc.length ≤ i + 1 ∧ Cov c F' (cs s' ++ [(D, cLst rb acc)]) H, fun H' ⟨F', acc, rest, s', z⟩ => ⟨ds.length - (i + 1), by omega, rfl, hlt, F', acc, rest, s', z⟩, fun x H' y => ?_⟩
    obtain ⟨F4, e4, c4, r4⟩ := g2 x H' y
    have k4 := c4 c _ k3
    rw [sMapT_drop hd] at hr
    obtain ⟨b, s2, h1, hr⟩ := sC_some hr
    refine hg c F4 _ H' x _ k4 r4 _ fun σ2 z2 => ⟨hs _ _ _ z2, ?_⟩
    have kk : Cov c F4 (cs s') H' := by
      have z := k4.keepN (cs s').length
      rw [List.take_left] at z
      exact z
    have e04 : Ex F F4 := ((e1.trans e2).trans e3).trans e4
    refine ht _ F4 σ2 s' e04 z2 b s2 h1 _ F4 H' (Ex.refl _) kk.base _ fun F5 H5 e5 k5 => ?_
    have k5' : Cov c F5 (cs s2 ++ [(D, cLst rb acc)]) H5 := k4.back k5 (Cov.old_ps k5)
    cases b with
    | true =>
      rw [if_pos rfl] at hr
      obtain ⟨z, s3, h2, hr⟩ := sC_some hr
      obtain ⟨rr, s4, h3, hr⟩ := sC_some hr
      cases hr
      have kk5 : Cov c F5 (cs s2) H5 := by
        have z := k5'.keepN (cs s2).length
        rw [List.take_left] at z
        exact z
      show te σ2 H5 _
      refine he _ F4 σ2 s2 e04 z2 z s3 h2 _ F5 H5 e5 kk5.base _ fun v F6 H6 e6 k6 r6 => ?_
      have k6' : Cov c F6 (cs s3 ++ [(D, cLst rb acc)]) H6 := k5'.back k6 (Cov.old_ps k6)
      obtain ⟨f1, _, o, f3, ws, rfl, f4⟩ := k6'.cell (D, cLst rb acc) (List.mem_append_right _ List.mem_cons_self)
      refine ⟨ws, f3, sz_lt (by rw [f4.length]; omega), F6, acc ++ [z], rr, s3, ((e3.trans e4).trans e5).trans e6, h3, by rw [eq]; simp, by simp; omega, ?_⟩
      have k7 := k6'.set (cs s3).length (p := D) (x := cLst rb acc) (x' := cLst rb (acc ++ [z])) (o := .lst (ws ++ [v])) (by simp) ⟨ws ++ [v], rfl, f4.snoc r6⟩
      rw [List.set_append_right _ _ (Nat.le_refl _), Nat.sub_self] at k7
      exact k7
    | false =>
      rw [if_neg Bool.false_ne_true] at hr
      exact ⟨F5, acc, rest, s2, (e3.trans e4).trans e5, hr, eq, by omega, k5'⟩
  · have e : i = ds.length := by omega
    subst e
    rw [List.drop_length] at hr
    cases hr
    rw [List.append_nil] at eq
    subst eq
    exact .inl ⟨G.stop c F' _ H e3 k3, hQ D F' H (e2.trans e3) k3 hD0⟩
end
/-- data told otherwise -/
theorem em_mapR {α β : Type} {ra : Rp α} {rb : Rp β} {te : TE} {σ : L2.St} {F : Hp} {cs : Cs} {g : α → β} {m : Option α} (hp : ∀ F v x, ra.r F v x → rb.r F v (g x)) (h : EM ra te σ F cs m) : EM rb te σ F cs (m.map g) := fun d q c F1 H e k Q hQ => by
  cases m with
  | none => cases q
  | some a =>
    cases q
    exact h a rfl c F1 H e k Q fun v F2 H2 e2 k2 r2 => hQ v F2 H2 e2 k2 (hp _ _ _ r2)
end Mw

set_option maxHeartbeats 2000000
/-! Mt: sets of int tuples that are counted; dict comprehensions with tuple keys; setdefault, get. -/
namespace Mw
open PySem PySem.Spec PyProof.Rows L2
open Evl (Ex)
section
variable {P : Program} {w : World} {A : Around} {E : Value → Shared → Prop} {s : Shared} {a x : Addr} {L : List (Addr × List Int)} {k : List Int} {es : Array (Int × Value)} {ep : Nat} {t : SetTable}
theorem setT_add {Q : Value → Shared → Prop} (R : SetTR P w s.heap a L es ep t) (hx : L2.IsT P w s.heap k x) (hu : A.units + 2 < cLine) (hf : L.length + 1 < 64)
    (hQ : ∀ h' tk L', Heap.SameBut a s.heap h' → SetT0 P w h' a L' → (k ∈ L.map (·.2) → L' = L) → (k ∉ L.map (·.2) → L'.Perm ((x, k) :: L)) → Q .none { s with heap := h', toks := tk }) :
    wpAny (model P w) A (call (.builtin "set.add") [.ref a, .ref x]) Q E s := by
  have ⟨o, ho, hex, hd⟩ := R.ob
  refine wpAny_call_entry F.slot_set_add (⟨o, ho, hex.1⟩ : s.TypeIs (.ref a) "set") F.entry_set_add ?_ (F.args_set_add_2 _ _)
  unfold Builtin.«set.add» Builtin.Frozenset.oneOther Builtin.Frozenset.addrOf setAdd
  simp only [List.isEmpty_nil, bind_assoc]
  refine wpAny_bind (wpAny_pure ?_)
  try dsimp only
  refine wpAny_bind (wpAny_pure ?_)
  try dsimp only
  refine wpAny_bind (wpAny_holding (wpAny_bind (wpAny_pyHash_tuple ?_ hx ?_)))
  · show A.units + 1 < cLine
    omega
  refine add_at (s := { s with toks := s.toks + (k.length + 1) }) R hx ?_ hf fun b h' L' es' ep' t' sb R' c1 c2 => wpAny_pure ⟨_, rfl, hQ h' _ L' sb R'.t0 c1 c2⟩
  show A.units + 1 < cLine
  omega
end
section
variable {X : Cx} {pins : List (Addr × Obj)} {σ : L2.St} {H : Hp} {s : Shared} {E : Value → Shared → Prop} {D b : Addr} {L : List (Addr × List Int)} {k : List Int}
abbrev TupsAt (K : PySem.W.Frag) (H : Hp) (L : List (Addr × List Int)) : Prop := ∀ p ∈ L, SqT K H p.1 (p.2.map V.int)
theorem addT_ok {Q : Value → Shared → Prop} (I : Inv X pins σ H s) (hD : H D = some (SetTO X.prog X.w D L)) (hL : TupsAt X.K H L) (hb : SqT X.K H b (k.map V.int)) (hu : X.A.units + 2 < cLine) (hf : L.length + 1 < 64)
    (h : ∀ L' s', (k ∈ L.map (·.2) → L' = L) → (k ∉ L.map (·.2) → L'.Perm ((b, k) :: L)) → Inv X pins σ (upd H D (SetTO X.prog X.w D L')) s' → Q .none s') :
    wpAny (model X.prog X.w) X.A (call (.builtin "set.add") [.ref D, .ref b]) Q E s := by
  obtain ⟨es, ep, t, R⟩ := ((I.hok D _ hD).1 : SetT0 X.prog X.w s.heap D L).full fun p hp => I.isT (hL p hp)
  refine setT_add R (I.isT hb) hu hf fun h' tk L' sb new c1 c2 => ?_
  have ⟨_, _, _, ⟨o, ho, _⟩, _⟩ := new.ex
  exact h L' _ c1 c2 (I.write (e := D) (t' := tk) (by rw [hD]; trivial) (.inl rfl) (fun c u hc e => (sb.2 c hc).trans e) ⟨o, ho⟩ (setTO_new new))
/-! ### a comprehension with one for, whatever it fills -/
/-- what an accumulating step reads: from the state behind the test to the turn's end -/
abbrev Acc := L2.St → Hp → Addr → (Hp → Prop) → Prop
def tAcc (o0 : Addr → HO) (wi : TI) (g : TG) (tt : TT) (ta : Acc) (vs : List Nat) : TE := fun σ H Q => wi σ H fun J H1 => ∀ D, H1 D = none → ∃ W : Nat → Nat → Hp → Prop, (∃ m, W 0 m (upd H1 D (o0 D))) ∧ ∀ i m H, W i m H →
  (J.stop i H ∧ Q (.ref D) H) ∨ (J.go i H ∧ ∃ Nx : Hp → Prop, (∀ H', Nx H' → ∃ m', m' < m ∧ W (i + 1) m' H') ∧ ∀ x H', J.yld i H x H' → g x (wipe σ vs) H' fun σ2 H2 => wipe σ2 vs = wipe σ vs ∧ tt σ2 H2 fun b H3 =>
    if b = true then ta σ2 H3 D Nx else Nx H3)
/-- an evaluation's step: at an environment, with what comes behind and at an error -/
abbrev AStep := Env → Addr → (Shared → Prop) → (Value → Shared → Prop) → Shared → Prop
/-- the form of the comprehension: how its loop goes, how it begins -/
structure AForm (P : Program) (w : World) (A : Around) (node : Expr) (tg iter : Expr) (ifs : List Expr) (mk : Sem Value) (raw : Obj) (step : AStep) : Prop where
  cl : clausesOf node = [⟨tg, iter, ifs, 0⟩]
  mk_ok : ∀ {s : Shared} {Q : Value → Shared → Prop} {E : Value → Shared → Prop}, Q (.ref s.heap.objs.size) { s with heap := s.heap.push raw } → wpAny (model P w) A mk Q E s
  loop : ∀ {it D : Addr} {env : Env} {R : Result → Shared → Prop} (Iv : Nat → Shared → Prop),
    (∀ n s, Iv n s → wpAny (model P w) A (pyNext (.ref it)) (fun r s1 => match r with
      | none => R (.ok .next) s1
      | some v => wpAny (model P w) A (letOwnedTupleGo tg (.ref it) v) (fun _ s2 => wpAny (model P w) A (assign tg env v) (fun _ s3 =>
          wpAny (model P w) A (forIn ifs true fun c r => if r = true then do let ok ← isTrue c env (eval c env); pure (ForInStep.yield ok) else pure (ForInStep.yield r)) (fun ok s4 =>
            if ok = true then step env D (fun s5 => ∃ m, m < n ∧ Iv m s5) (notedBy (model P w) A env fun e s' => R (.error e) s') s4 else ∃ m, m < n ∧ Iv m s4)
          (notedBy (model P w) A env fun e s' => R (.error e) s') s3) (notedBy (model P w) A env fun e s' => R (.error e) s') s2) (notedBy (model P w) A env fun e s' => R (.error e) s') s1)
      (notedBy (model P w) A env fun e s' => R (.error e) s') s) →
    ∀ n s, Iv n s → codeAny (model P w) A (.compLoop node 0 (.ref it) (.ref D) env) R s
  start : ∀ {it D : Addr} {env : Env} {R : Result → Shared → Prop} {s : Shared}, codeAny (model P w) A (.compLoop node 0 (.ref it) (.ref D) env) R s →
    wpAny (model P w) A (pyIter (.ref it)) (fun it' s' => codeAny (model P w) A (.compLoop node 0 it' (.ref D) env) R s') (notedBy (model P w) A env fun x s' => R (.error x) s') s →
    codeAny (model P w) A (.compStart node 0 (.ref it) (.ref D) env) R s
theorem acc_core {use : Option (Value → Sem Unit)} {Qf : Value → Shared → Prop} {node tg iter : Expr} {ifs : List Expr} {mk : Sem Value} {raw : Obj} {step : AStep} {o0 : Addr → HO} {scope : Scope} {own : List (PySem.Str × Nat)} {pos : Pos} {wi : TI} {g : TG} {tt : TT} {ta : Acc} {Q : VK}
    (fm : AForm X.prog X.w X.A node tg iter ifs mk raw step) (hc : X.calm = true) (hN : X.N.Nodup) (I : Inv X pins σ H s) (hi : PI X tg iter wi) (ok : BlkOk X.N X.env.scope scope own)
    (new : ∀ (H : Hp) (h : Heap), sysModules < h.objs.size → ObjOk X.prog X.w H (h.push raw) h.objs.size (o0 h.objs.size))
    (hg : ∀ (s : Shared) (H : Hp) (C : Addr) (cl : List (PySem.Str × Addr)) (fp : List Addr), PG (X.blk s H scope (compEnvC scope cl C X.env) fp) tg g)
    (ht : ∀ (s : Shared) (H : Hp) (C : Addr) (cl : List (PySem.Str × Addr)) (fp : List Addr), PTs (X.blk s H scope (compEnvC scope cl C X.env) fp) ifs tt)
    (ha : ∀ (s : Shared) (H : Hp) (C : Addr) (cl : List (PySem.Str × Addr)) (fp : List Addr) (pins : List (Addr × Obj)) (σ2 : L2.St) (H2 : Hp) (s2 : Shared) (D : Addr) (Nx : Hp → Prop) (post : Shared → Prop) (err : Value → Shared → Prop),
      Inv (X.blk s H scope (compEnvC scope cl C X.env) fp) pins σ2 H2 s2 → ta σ2 H2 D Nx → (∀ s3 H3, Inv (X.blk s H scope (compEnvC scope cl C X.env) fp) pins σ2 H3 s3 → Nx H3 → post s3) → step (compEnvC scope cl C X.env) D post err s2)
    (hs : ∀ x, foldedSetIterable iter X.env x = pure x) (h : tAcc o0 wi g tt ta (own.map (·.2)) σ H Q)
    (hR : ∀ D C s' m H', Inv X pins σ H' s' → Q (.ref D) H' → s'.heap.Ns C m → FpOk X pins H' C → compPost (model X.prog X.w) X.A X.xe use Qf (.ref D) C (.ok .next) s') :
    wpAny (model X.prog X.w) X.A (comprehension node scope X.env pos mk false (eval iter X.env) use) Qf X.xe s := by
  have hfree : ∀ y ∈ scope.names, y.2 = .free → ∃ c, X.env.cells.lookup y.1 = some c := fun y hy e => (ok.free y hy e).elim (fun k => I.ok.has _ (.inl k)) fun k => I.ok.has _ (.inr k)
  refine wpAny_comprehension_free (use := use) fm.cl hs (closure_ok hfree) ok.kind (fun y hy e => by rw [ok.uniq y hy, e]) (thn (hi.run pins s σ H _ I h) fun _ _ hx => thn hx fun itv s2 h2 => ?_)
  obtain ⟨it, fp, tn, J, H2, rfl, I2, T, st2, f2, q⟩ := h2
  refine fm.mk_ok (newEnv_comp ?_)
  obtain ⟨D, hD⟩ : ∃ D, D = s2.heap.objs.size := ⟨_, rfl⟩
  rw [← hD]
  have hDn : H2 D = none := I2.hok.fresh (Nat.le_of_eq hD.symm)
  obtain ⟨W, ⟨m0, w0⟩, turn⟩ := q D hDn
  obtain ⟨s3, e3⟩ : ∃ s3 : Shared, s3 = { s2 with heap := s2.heap.push raw } := ⟨_, rfl⟩
  have hp3 : s3.heap = s2.heap.push raw := by rw [e3]
  obtain ⟨H3, eH3⟩ : ∃ H3, H3 = upd H2 D (o0 D) := ⟨_, rfl⟩
  rw [← eH3] at w0
  have I3 : Inv X pins σ H3 s3 := by
    rw [e3, eH3]
    refine I2.laid (t' := s2.toks) (fun b o e => Heap.get?_push_of_some _ e) (Nat.le_of_eq hD.symm) ?_
    rw [hD]
    exact new _ _ I2.big
  have young : ∀ b ∈ fp, b < s2.heap.objs.size := fun b hb => let ⟨_, e, _⟩ := T.obj _ _ st2 b hb; Heap.lt_size e
  have f3 : ∀ b ∈ fp, FpOk X pins H3 b ∧ b < s3.heap.objs.size := fun b hb => by
    refine ⟨⟨?_, (f2 b hb).2⟩, by rw [hp3, Heap.size_push]; exact Nat.lt_succ_of_lt (young b hb)⟩
    rw [eH3, upd_ne (by rw [hD]; exact Nat.ne_of_lt (young b hb))]
    exact (f2 b hb).1
  have st3 : tn 0 s3.heap := T.keep _ _ _ st2 fun b _ o e => by rw [hp3]; exact Heap.get?_push_of_some _ e
  have n3 : ∀ b ∈ fp, H3 b = none := fun b hb => (f3 b hb).1.1
  have I4 := block_start I3 ok hN f3
  rw [← e3]
  obtain ⟨cl, ecl⟩ : ∃ cl, cl = cellsFrom (s3.heap.objs.size + 1) scope.names (cloFrom X.env.cells scope.names []) := ⟨_, rfl⟩
  obtain ⟨C, eC⟩ : ∃ C, C = s3.heap.objs.size := ⟨_, rfl⟩
  rw [← ecl, ← eC] at I4
  show codeAny _ _ (.compStart node 0 (.ref it) (.ref D) (compEnvC scope (cellsFrom (s3.heap.objs.size + 1) scope.names (cloFrom X.env.cells scope.names [])) s3.heap.objs.size X.env)) (compPost _ X.A X.xe use _ (.ref D) s3.heap.objs.size) { s3 with heap := pushCells (s3.heap.push { cls := .type "dict", data := .dict #[] }) scope.names }
  rw [← ecl, ← eC]
  obtain ⟨s4, e4⟩ : ∃ s4 : Shared, s4 = { s3 with heap := pushCells (s3.heap.push { cls := .type "dict", data := .dict #[] }) scope.names } := ⟨_, rfl⟩
  rw [← e4] at I4 ⊢
  have st4 : tn 0 s4.heap := T.keep _ _ _ st3 fun b _ o e => by rw [e4]; exact pushCells_keeps _ _ _ _ (Heap.get?_push_of_some _ e)
  have Fp : ∀ {σ' : L2.St} {H' : Hp} {s' : Shared}, Inv (X.blk s3 H3 scope (compEnvC scope cl C X.env) fp) [] σ' H' s' → (∀ b ∈ fp, H' b = none) → ∀ b ∈ fp, FpOk (X.blk s3 H3 scope (compEnvC scope cl C X.env) fp) [] H' b := fun I' hn b hb =>
    ⟨hn b hb, (I'.ok.exf b hb).1, I'.ok.exfs b hb, .inl hb, fun x c e => (I'.ok.exf b hb).2 x c e, fun p hp => absurd (show p ∈ ([] : List (Addr × Obj)) ++ [] from hp) (by simp)⟩
  have loop : codeAny (model X.prog X.w) X.A (.compLoop node 0 (.ref it) (.ref D) (compEnvC scope cl C X.env)) (compPost (model X.prog X.w) X.A X.xe use Qf (.ref D) C) s4 := by
    refine fm.loop (fun n s' => ∃ i H', Inv (X.blk s3 H3 scope (compEnvC scope cl C X.env) fp) [] (wipe σ (own.map (·.2))) H' s' ∧ tn i s'.heap ∧ (∀ b ∈ fp, H' b = none) ∧ W i n H') ?_ m0 s4 ⟨0, H3, I4, st4, n3, w0⟩
    rintro n s5 ⟨i, H5, I5, st5, n5, w5⟩
    rcases turn i n H5 w5 with ⟨stop, qq⟩ | ⟨go, Nx, hNx, body⟩
    · refine thnF (T.done (X.blk s3 H3 scope (compEnvC scope cl C X.env) fp) rfl rfl rfl hc i [] s5 _ H5 (fun _ _ => False) I5 (Fp I5 n5) st5 stop) fun r s6 ⟨hr, I6⟩ => ?_
      subst hr
      obtain ⟨m, hn, _⟩ := I6.loc
      have I7 : Inv X pins σ H5 s6 := I3.call' (ch := fp) I6.os I6.base I6.hok I6.bare fun b hb => let z := (f3 b hb).1.2; ⟨z.2.2.1, z.1, z.2.2.2.1, z.2.2.2.2⟩
      have nC : H5 C = none := I6.free
      exact hR D C s6 m H5 I7 qq hn (I3.fpOk (Nat.le_of_eq eC.symm) nC)
    · refine thnF (T.item (X.blk s3 H3 scope (compEnvC scope cl C X.env) fp) rfl rfl rfl hc i [] s5 _ H5 (fun _ _ => False) I5 (Fp I5 n5) st5 go) fun r s6 ⟨u, hr, h6⟩ => ?_
      subst hr
      refine thnF h6 fun _ s7 ⟨x, H7, I7, r7, y7, st7, n7⟩ => ?_
      refine thnF ((hg s3 H3 C cl fp).run _ s7 _ H7 x u _ (I7.pinned (Fp I7 n7) (T.obj _ _ st7)) r7 (body x H7 y7)) fun _ s8 ⟨σ8, H8, I8, hw8, q8⟩ => ?_
      refine thnF ((ht s3 H3 C cl fp).run _ s8 σ8 H8 _ I8 q8) fun b s9 ⟨H9, I9, q9⟩ => ?_
      have fin : ∀ (s' : Shared) (H' : Hp), Inv (X.blk s3 H3 scope (compEnvC scope cl C X.env) fp) ([] ++ pinsAt fp s7.heap) σ8 H' s' → Nx H' → ∃ m, m < n ∧ ∃ i H', Inv (X.blk s3 H3 scope (compEnvC scope cl C X.env) fp) [] (wipe σ (own.map (·.2))) H' s' ∧ tn i s'.heap ∧ (∀ b ∈ fp, H' b = none) ∧ W i m H' := fun s' H' I' nx => by
        obtain ⟨m', hm, w'⟩ := hNx H' nx
        have held : ∀ b ∈ fp, ∀ o, s7.heap.get? b = some o → s'.heap.get? b = some o ∧ H' b = none := fun b hb o e =>
          let z := I'.pin (b, o) (List.mem_append_right _ (List.mem_append_right _ (mem_pinsAt hb e)))
          ⟨z.1, z.2.1⟩
        refine ⟨m', hm, i + 1, H', (I'.unpinned (pins := [])).weak (by rw [← hw8, wipe_length]) (fun j v e => ?_), T.keep _ _ _ st7 fun b hb o e => (held b hb o e).1, fun b hb => ?_, w'⟩
        · rw [← hw8] at e
          exact (wipe_some e).1
        · obtain ⟨o, e, _⟩ := T.obj _ _ st7 b hb
          exact (held b hb o e).2
      cases b with
      | false => exact fin s9 H9 I9 q9
      | true => exact ha s3 H3 C cl fp _ σ8 H9 s9 D Nx _ _ I9 q9 fin
  exact fm.start loop (T.self X.A 0 _ _ _ st4 loop)
theorem acc_run {node tg iter : Expr} {ifs : List Expr} {mk : Sem Value} {raw : Obj} {step : AStep} {o0 : Addr → HO} {scope : Scope} {own : List (PySem.Str × Nat)} {pos : Pos} {wi : TI} {g : TG} {tt : TT} {ta : Acc} {Q : VK}
    (fm : AForm X.prog X.w X.A node tg iter ifs mk raw step) (hc : X.calm = true) (hN : X.N.Nodup) (I : Inv X pins σ H s) (hi : PI X tg iter wi) (ok : BlkOk X.N X.env.scope scope own)
    (new : ∀ (H : Hp) (h : Heap), sysModules < h.objs.size → ObjOk X.prog X.w H (h.push raw) h.objs.size (o0 h.objs.size))
    (hg : ∀ (s : Shared) (H : Hp) (C : Addr) (cl : List (PySem.Str × Addr)) (fp : List Addr), PG (X.blk s H scope (compEnvC scope cl C X.env) fp) tg g)
    (ht : ∀ (s : Shared) (H : Hp) (C : Addr) (cl : List (PySem.Str × Addr)) (fp : List Addr), PTs (X.blk s H scope (compEnvC scope cl C X.env) fp) ifs tt)
    (ha : ∀ (s : Shared) (H : Hp) (C : Addr) (cl : List (PySem.Str × Addr)) (fp : List Addr) (pins : List (Addr × Obj)) (σ2 : L2.St) (H2 : Hp) (s2 : Shared) (D : Addr) (Nx : Hp → Prop) (post : Shared → Prop) (err : Value → Shared → Prop),
      Inv (X.blk s H scope (compEnvC scope cl C X.env) fp) pins σ2 H2 s2 → ta σ2 H2 D Nx → (∀ s3 H3, Inv (X.blk s H scope (compEnvC scope cl C X.env) fp) pins σ2 H3 s3 → Nx H3 → post s3) → step (compEnvC scope cl C X.env) D post err s2)
    (hs : ∀ x, foldedSetIterable iter X.env x = pure x) (h : tAcc o0 wi g tt ta (own.map (·.2)) σ H Q) :
    wpAny (model X.prog X.w) X.A (comprehension node scope X.env pos mk false (eval iter X.env)) (fun v s' => ∃ x H', Inv X pins σ H' s' ∧ RelV x v ∧ Q x H') X.xe s :=
  acc_core (use := none) fm hc hN I hi ok new hg ht ha hs h fun D C s' m H' I' q hn f => by
    obtain ⟨g0, g1, g2, g3, g4, g5⟩ := f
    exact ⟨m, hn, fun h'' sb => ⟨.ref D, H', I'.turned (it := C) (t' := s'.toks) (fun b o hb e => (sb.2 b hb).trans e) g0 g1 g3 g4 g5, rfl, q⟩⟩
/-- behind name = {..}, the name a local: the new thing is stored in the comprehension's own frame -/
theorem acc_store {C D : Addr} {s' : Shared} {m : PySem.Str → Option Value} {H' : Hp} {i : Nat} {y : PySem.Str} {py : Pos} {Ds : Ends} (I' : Inv X pins σ H' s') (hN : X.N.Nodup) (hy : X.N[i]? = some y) (hyl : X.env.scope.names.lookup y = some .local) (q : gName i (.ref D) σ H' Ds.nx) (hn : s'.heap.Ns C m) (f : FpOk X pins H' C) :
    compPost (model X.prog X.w) X.A X.xe (some (assign (.Name y py) X.env)) (fun _ s' => SP X pins Ds .next s') (.ref D) C (.ok .next) s' := by
  show wpAny _ _ (assign (.Name y py) X.env (.ref D)) _ _ _
  refine wpAny_assign_Name (store_ok2 (v := V.ref D) I' hN hy (.inl hyl) rfl (fun s2 I2 ⟨a, sb, ha⟩ => ?_) (.inr hyl))
  obtain ⟨g0, g1, g2, g3, g4, g5⟩ := f
  have hne : C ≠ a := ha.elim (fun z => by rw [z]; exact g1) fun z e => g4 y a z e.symm
  exact ⟨m, hn.sameBut sb hne, fun h3 sb3 => ⟨_, H', I2.turned (it := C) (t' := s2.toks) (fun b o hb e => (sb3.2 b hb).trans e) g0 g1 g3 g4 g5, q⟩⟩
theorem swD_true {kx vx : Expr} {gs : List Comprehension} {scope : Scope} {pos py : Pos} {y : PySem.Str} {l : Nat} {env : Env} (hk : env.scope.kind = .function) (hy : env.scope.names.lookup y = some .local) (hl : (py.line == pos.line) = true)
    (ha : (scope.names.any fun (n, k) => n == y && (k == .local || k == .cell)) = false) : swapsWith (.DictComp kx vx gs scope pos) (some (.Name y py)) l env = pure true := by
  have ky : env.kindOf y = some .local := hy
  have hb : env.blockKind = .function := by unfold Env.blockKind; rw [hk]; rfl
  unfold swapsWith
  simp only [hb, ky, ha, Expr.pos, hl]
  rfl
end
section
variable {X : Cx}
/-- at a comprehension's step: an element is added to a set -/
def stepS (P : Program) (w : World) (A : Around) (elt : Expr) : AStep := fun env D post err s => wpAny (model P w) A (eval elt env) (fun x s4 => wpAny (model P w) A (call (.builtin "set.add") [.ref D, x]) (fun _ s5 => post s5) err s4) err s
def stepD (P : Program) (w : World) (A : Around) (kx vx : Expr) : AStep := fun env D post err s => wpAny (model P w) A (eval kx env) (fun kv s4 => wpAny (model P w) A (eval vx env) (fun vv s5 => wpAny (model P w) A (dictSet D kv vv) (fun _ s6 => post s6) err s5) err s4) err s
theorem form_set {P : Program} {w : World} {A : Around} {elt tg iter : Expr} {ifs : List Expr} {scope : Scope} {pos : Pos} : AForm P w A (.SetComp elt [⟨tg, iter, ifs, 0⟩] scope pos) tg iter ifs (newSet (.type "set")) { cls := .type "set", dict := none, data := .set #[] 0 (.fresh 0 0 (!w.params.followText "set-order")) } (stepS P w A elt) :=
  ⟨rfl, fun h => PpSet.newSet_ok h, fun Iv turn n s h => PpSet.compLoopS_any Iv turn n h, fun h0 h => PpSet.codeAny_compStart_set h0 h⟩
theorem form_dict {P : Program} {w : World} {A : Around} {kx vx tg iter : Expr} {ifs : List Expr} {scope : Scope} {pos : Pos} : AForm P w A (.DictComp kx vx [⟨tg, iter, ifs, 0⟩] scope pos) tg iter ifs newDict { cls := .type "dict", data := .dict #[] } (stepD P w A kx vx) :=
  ⟨rfl, fun h => wpAny_newObj_type h, fun Iv turn n s h => compLoop_anyD Iv turn n h, fun h0 h => codeAny_compStart_dict h0 h⟩
def taS (K : PySem.W.Frag) (P : Program) (w : World) (te : TE) : Acc := fun σ H D Nx => te σ H fun y H4 => ∃ (c : Addr) (k : List Int) (L : List (Addr × List Int)), y = .ref c ∧ SqT K H4 c (k.map V.int) ∧ H4 D = some (SetTO P w D L) ∧ TupsAt K H4 L ∧ L.length + 1 < 64 ∧
      ∀ L', (k ∈ L.map (·.2) → L' = L) → (k ∉ L.map (·.2) → L'.Perm ((c, k) :: L)) → Nx (upd H4 D (SetTO P w D L'))
def taD (tk tv : TE) : Acc := fun σ H D Nx => tk σ H fun y H4 => tv σ H4 fun z H5 => ∃ (c : Addr) (k : List L2.Key) (kvs : List (List L2.Key × V)), y = .ref c ∧ H5 c = some (.tup (k.map kV)) ∧ H5 D = some (.dT kvs) ∧ kvs.length < sizeLine ∧ Nx (upd H5 D (.dT (putK kvs k z)))
def taDI (tk tv : TE) : Acc := fun σ H D Nx => tk σ H fun y H4 => tv σ H4 fun z H5 => ∃ (k : L2.Key) (kvs : List (L2.Key × V)), y = kV k ∧ H5 D = some (.dK kvs) ∧ kvs.length < sizeLine ∧ Nx (upd H5 D (.dK (putK kvs k z)))
theorem pe_scT {elt tg iter : Expr} {ifs : List Expr} {scope : Scope} {own : List (PySem.Str × Nat)} {pos : Pos} {wi : TI} {g : TG} {tt : TT} {te : TE} (hu : X.A.units + 2 < cLine) (hc : X.calm = true) (hN : X.N.Nodup) (hi : PI X tg iter wi) (ok : BlkOk X.N X.env.scope scope own)
    (hg : ∀ (s : Shared) (H : Hp) (C : Addr) (cl : List (PySem.Str × Addr)) (fp : List Addr), PG (X.blk s H scope (compEnvC scope cl C X.env) fp) tg g) (ht : ∀ (s : Shared) (H : Hp) (C : Addr) (cl : List (PySem.Str × Addr)) (fp : List Addr), PTs (X.blk s H scope (compEnvC scope cl C X.env) fp) ifs tt)
    (he : ∀ (s : Shared) (H : Hp) (C : Addr) (cl : List (PySem.Str × Addr)) (fp : List Addr), PE (X.blk s H scope (compEnvC scope cl C X.env) fp) elt te) (hs : ∀ x, foldedSetIterable iter X.env x = pure x := by intro _; rfl) :
    PE X (.SetComp elt [⟨tg, iter, ifs, 0⟩] scope pos) (tAcc (fun D => SetTO X.prog X.w D []) wi g tt (taS X.K X.prog X.w te) (own.map (·.2))) := by
  refine ⟨fun pins s σ H Q I h => ?_⟩
  rw [PpSet.eval_SetComp]
  refine acc_run form_set hc hN I hi ok (fun H h _ => setTO_new (setTR_fresh (Heap.get?_push_size _ rfl)).t0) hg ht (fun s0 H0 C cl fp pins σ2 H2 s2 D Nx post err I2 ta hp => ?_) hs h
  refine thnF ((he s0 H0 C cl fp).run pins s2 σ2 H2 _ I2 ta) fun x s3 ⟨v, H3, I3, r3, c, k, L, ev, hb, hD, hL, hf, nx⟩ => ?_
  subst ev
  cases (show x = Value.ref c from r3)
  exact addT_ok (X := X.blk s0 H0 scope (compEnvC scope cl C X.env) fp) I3 hD hL hb hu hf fun L' s4 c1 c2 I4 => hp s4 _ I4 (nx L' c1 c2)
theorem pe_dcT {kx vx tg iter : Expr} {ifs : List Expr} {scope : Scope} {own : List (PySem.Str × Nat)} {pos : Pos} {wi : TI} {g : TG} {tt : TT} {tk tv : TE} (hu : X.A.units + 2 < cLine) (hc : X.calm = true) (hN : X.N.Nodup) (hi : PI X tg iter wi) (ok : BlkOk X.N X.env.scope scope own)
    (hg : ∀ (s : Shared) (H : Hp) (C : Addr) (cl : List (PySem.Str × Addr)) (fp : List Addr), PG (X.blk s H scope (compEnvC scope cl C X.env) fp) tg g) (ht : ∀ (s : Shared) (H : Hp) (C : Addr) (cl : List (PySem.Str × Addr)) (fp : List Addr), PTs (X.blk s H scope (compEnvC scope cl C X.env) fp) ifs tt)
    (hk : ∀ (s : Shared) (H : Hp) (C : Addr) (cl : List (PySem.Str × Addr)) (fp : List Addr), PE (X.blk s H scope (compEnvC scope cl C X.env) fp) kx tk)
    (he : ∀ (s : Shared) (H : Hp) (C : Addr) (cl : List (PySem.Str × Addr)) (fp : List Addr), PE (X.blk s H scope (compEnvC scope cl C X.env) fp) vx tv) (hs : ∀ x, foldedSetIterable iter X.env x = pure x := by intro _; rfl) :
    PE X (.DictComp kx vx [⟨tg, iter, ifs, 0⟩] scope pos) (tAcc (fun _ => .dT []) wi g tt (taD tk tv) (own.map (·.2))) := by
  refine ⟨fun pins s σ H Q I h => ?_⟩
  rw [arm_eval_DictComp]
  refine acc_run form_dict hc hN I hi ok (fun H h hb => dt_empty h hb) hg ht (fun s0 H0 C cl fp pins σ2 H2 s2 D Nx post err I2 ta hp => ?_) hs h
  refine thnF ((hk s0 H0 C cl fp).run pins s2 σ2 H2 _ I2 ta) fun x s3 ⟨v, H3, I3, r3, q3⟩ => ?_
  refine thnF ((he s0 H0 C cl fp).run pins s3 σ2 H3 _ I3 q3) fun y s4 ⟨z, H4, I4, r4, c, k, kvs, ev, hb, hD, hz, nx⟩ => ?_
  subst ev
  cases (show x = Value.ref c from r3)
  obtain ⟨z1, hd, xs, rel, dd⟩ := dt_of I4.hok hD
  have hz1 : xs.length ≤ sizeLine := by rw [← Paired.length rel]; exact z1
  have hl : (putK kvs k z).length ≤ sizeLine := by have := length_putK kvs k z; omega
  refine wpAny_dictSet_heap (hsz := hz1) (knd := tupleKind (mixKind X.prog X.w)) (show X.A.units < cLine by omega) (key_of I4.hok hb) dd fun h' dd' hs' => hp _ _ ?_ nx
  obtain ⟨q, es, ep, hq, h2, h3, h4, _, h5⟩ := dd'
  refine d_write (t' := _) I4 (by rw [hD]; exact True.intro) hs' ⟨q, hq⟩ ⟨hl, hd, _, (rel.put k hb r4).keeps fun c ys ec => ?_, q, es, ep, hq, h2, h3, h4, h5⟩
  rw [upd_ne (ne_of ec hD (fun z => nomatch z))]
  exact ec
theorem pe_dcI {kx vx tg iter : Expr} {ifs : List Expr} {scope : Scope} {own : List (PySem.Str × Nat)} {pos : Pos} {wi : TI} {g : TG} {tt : TT} {tk tv : TE} (hc : X.calm = true) (hN : X.N.Nodup) (hi : PI X tg iter wi) (ok : BlkOk X.N X.env.scope scope own)
    (hg : ∀ (s : Shared) (H : Hp) (C : Addr) (cl : List (PySem.Str × Addr)) (fp : List Addr), PG (X.blk s H scope (compEnvC scope cl C X.env) fp) tg g) (ht : ∀ (s : Shared) (H : Hp) (C : Addr) (cl : List (PySem.Str × Addr)) (fp : List Addr), PTs (X.blk s H scope (compEnvC scope cl C X.env) fp) ifs tt)
    (hk : ∀ (s : Shared) (H : Hp) (C : Addr) (cl : List (PySem.Str × Addr)) (fp : List Addr), PE (X.blk s H scope (compEnvC scope cl C X.env) fp) kx tk)
    (he : ∀ (s : Shared) (H : Hp) (C : Addr) (cl : List (PySem.Str × Addr)) (fp : List Addr), PE (X.blk s H scope (compEnvC scope cl C X.env) fp) vx tv) (hs : ∀ x, foldedSetIterable iter X.env x = pure x := by intro _; rfl) :
    PE X (.DictComp kx vx [⟨tg, iter, ifs, 0⟩] scope pos) (tAcc (fun _ => .dK []) wi g tt (taDI tk tv) (own.map (·.2))) := by
  refine ⟨fun pins s σ H Q I h => ?_⟩
  rw [arm_eval_DictComp]
  refine acc_run form_dict hc hN I hi ok (fun H h hb => dk_empty h hb) hg ht (fun s0 H0 C cl fp pins σ2 H2 s2 D Nx post err I2 ta hp => ?_) hs h
  refine thnF ((hk s0 H0 C cl fp).run pins s2 σ2 H2 _ I2 ta) fun x s3 ⟨v, H3, I3, r3, q3⟩ => ?_
  refine thnF ((he s0 H0 C cl fp).run pins s3 σ2 H3 _ I3 q3) fun y s4 ⟨z, H4, I4, r4, k, kvs, ev, hD, hz, nx⟩ => ?_
  subst ev
  exact d_dictSet (X := X.blk s0 H0 scope (compEnvC scope cl C X.env) fp) I4 hD hz r3 r4 fun s5 I5 => hp s5 _ I5 nx
theorem ps_setDcT {i : Nat} {y : PySem.Str} {py : Pos} {kx vx tg iter : Expr} {ifs : List Expr} {scope : Scope} {own : List (PySem.Str × Nat)} {pos spos : Pos} {wi : TI} {g : TG} {tt : TT} {tk tv : TE} (hu : X.A.units + 2 < cLine) (hc : X.calm = true) (hN : X.N.Nodup) (hy : X.N[i]? = some y) (hyl : X.env.scope.names.lookup y = some .local)
    (hsw : swapsWith (.DictComp kx vx [⟨tg, iter, ifs, 0⟩] scope pos) (some (.Name y py)) spos.line X.env = pure true) (hi : PI X tg iter wi) (ok : BlkOk X.N X.env.scope scope own)
    (hg : ∀ (s : Shared) (H : Hp) (C : Addr) (cl : List (PySem.Str × Addr)) (fp : List Addr), PG (X.blk s H scope (compEnvC scope cl C X.env) fp) tg g) (ht : ∀ (s : Shared) (H : Hp) (C : Addr) (cl : List (PySem.Str × Addr)) (fp : List Addr), PTs (X.blk s H scope (compEnvC scope cl C X.env) fp) ifs tt)
    (hk : ∀ (s : Shared) (H : Hp) (C : Addr) (cl : List (PySem.Str × Addr)) (fp : List Addr), PE (X.blk s H scope (compEnvC scope cl C X.env) fp) kx tk)
    (he : ∀ (s : Shared) (H : Hp) (C : Addr) (cl : List (PySem.Str × Addr)) (fp : List Addr), PE (X.blk s H scope (compEnvC scope cl C X.env) fp) vx tv) (hs : ∀ x, foldedSetIterable iter X.env x = pure x := by intro _; rfl) :
    PS X (.Assign [.Name y py] (.DictComp kx vx [⟨tg, iter, ifs, 0⟩] scope pos) spos) (tAsg (tAcc (fun _ => .dT []) wi g tt (taD tk tv) (own.map (·.2))) (gName i)) := by
  refine ⟨fun pins s σ H Ds I h => ?_⟩
  rw [exec_Assign_Name_used _ _ _ _ hsw]
  refine wpAny_bind (wpAny_standAt (wpAny_bind ?_))
  show wpAny _ X.A (do let _ ← comprehension (.DictComp kx vx [⟨tg, iter, ifs, 0⟩] scope pos) scope X.env (firstIterPos [⟨tg, iter, ifs, 0⟩] pos) newDict false (eval iter X.env) (some (assign (.Name y py) X.env))) _ _ s
  have h : tAcc (fun _ => .dT []) wi g tt (taD tk tv) (own.map (·.2)) σ H (fun x H1 => gName i x σ H1 Ds.nx) := h
  refine wpAny_bind (thn (acc_core (Qf := fun _ s' => SP X pins Ds .next s') form_dict hc hN I hi ok (fun H h hb => dt_empty h hb) hg ht (fun s0 H0 C cl fp pins σ2 H2 s2 D Nx post err I2 ta hp => ?_) hs h fun D C s' m H' I' q hn f => acc_store I' hN hy hyl q hn f) fun _ s' hq => wpAny_pure (wpAny_pure hq))
  refine thnF ((hk s0 H0 C cl fp).run pins s2 σ2 H2 _ I2 ta) fun x s3 ⟨v, H3, I3, r3, q3⟩ => ?_
  refine thnF ((he s0 H0 C cl fp).run pins s3 σ2 H3 _ I3 q3) fun y s4 ⟨z, H4, I4, r4, c, k, kvs, ev, hb, hD, hz, nx⟩ => ?_
  subst ev
  cases (show x = Value.ref c from r3)
  obtain ⟨z1, hd, xs, rel, dd⟩ := dt_of I4.hok hD
  have hz1 : xs.length ≤ sizeLine := by rw [← Paired.length rel]; exact z1
  have hl : (putK kvs k z).length ≤ sizeLine := by have := length_putK kvs k z; omega
  refine wpAny_dictSet_heap (hsz := hz1) (knd := tupleKind (mixKind X.prog X.w)) (show X.A.units < cLine by omega) (key_of I4.hok hb) dd fun h' dd' hs' => hp _ _ ?_ nx
  obtain ⟨q, es, ep, hq, h2, h3, h4, _, h5⟩ := dd'
  refine d_write (t' := _) I4 (by rw [hD]; exact True.intro) hs' ⟨q, hq⟩ ⟨hl, hd, _, (rel.put k hb r4).keeps fun c ys ec => ?_, q, es, ep, hq, h2, h3, h4, h5⟩
  rw [upd_ne (ne_of ec hD (fun z => nomatch z))]
  exact ec
theorem ps_setDcI {i : Nat} {y : PySem.Str} {py : Pos} {kx vx tg iter : Expr} {ifs : List Expr} {scope : Scope} {own : List (PySem.Str × Nat)} {pos spos : Pos} {wi : TI} {g : TG} {tt : TT} {tk tv : TE} (hc : X.calm = true) (hN : X.N.Nodup) (hy : X.N[i]? = some y) (hyl : X.env.scope.names.lookup y = some .local)
    (hsw : swapsWith (.DictComp kx vx [⟨tg, iter, ifs, 0⟩] scope pos) (some (.Name y py)) spos.line X.env = pure true) (hi : PI X tg iter wi) (ok : BlkOk X.N X.env.scope scope own)
    (hg : ∀ (s : Shared) (H : Hp) (C : Addr) (cl : List (PySem.Str × Addr)) (fp : List Addr), PG (X.blk s H scope (compEnvC scope cl C X.env) fp) tg g) (ht : ∀ (s : Shared) (H : Hp) (C : Addr) (cl : List (PySem.Str × Addr)) (fp : List Addr), PTs (X.blk s H scope (compEnvC scope cl C X.env) fp) ifs tt)
    (hk : ∀ (s : Shared) (H : Hp) (C : Addr) (cl : List (PySem.Str × Addr)) (fp : List Addr), PE (X.blk s H scope (compEnvC scope cl C X.env) fp) kx tk)
    (he : ∀ (s : Shared) (H : Hp) (C : Addr) (cl : List (PySem.Str × Addr)) (fp : List Addr), PE (X.blk s H scope (compEnvC scope cl C X.env) fp) vx tv) (hs : ∀ x, foldedSetIterable iter X.env x = pure x := by intro _; rfl) :
    PS X (.Assign [.Name y py] (.DictComp kx vx [⟨tg, iter, ifs, 0⟩] scope pos) spos) (tAsg (tAcc (fun _ => .dK []) wi g tt (taDI tk tv) (own.map (·.2))) (gName i)) := by
  refine ⟨fun pins s σ H Ds I h => ?_⟩
  rw [exec_Assign_Name_used _ _ _ _ hsw]
  refine wpAny_bind (wpAny_standAt (wpAny_bind ?_))
  show wpAny _ X.A (do let _ ← comprehension (.DictComp kx vx [⟨tg, iter, ifs, 0⟩] scope pos) scope X.env (firstIterPos [⟨tg, iter, ifs, 0⟩] pos) newDict false (eval iter X.env) (some (assign (.Name y py) X.env))) _ _ s
  have h : tAcc (fun _ => .dK []) wi g tt (taDI tk tv) (own.map (·.2)) σ H (fun x H1 => gName i x σ H1 Ds.nx) := h
  refine wpAny_bind (thn (acc_core (Qf := fun _ s' => SP X pins Ds .next s') form_dict hc hN I hi ok (fun H h hb => dk_empty h hb) hg ht (fun s0 H0 C cl fp pins σ2 H2 s2 D Nx post err I2 ta hp => ?_) hs h fun D C s' m H' I' q hn f => acc_store I' hN hy hyl q hn f) fun _ s' hq => wpAny_pure (wpAny_pure hq))
  refine thnF ((hk s0 H0 C cl fp).run pins s2 σ2 H2 _ I2 ta) fun x s3 ⟨v, H3, I3, r3, q3⟩ => ?_
  refine thnF ((he s0 H0 C cl fp).run pins s3 σ2 H3 _ I3 q3) fun y s4 ⟨z, H4, I4, r4, k, kvs, ev, hD, hz, nx⟩ => ?_
  subst ev
  exact d_dictSet (X := X.blk s0 H0 scope (compEnvC scope cl C X.env) fp) I4 hD hz r3 r4 fun s5 I5 => hp s5 _ I5 nx

/-! ### len(set), set(list) -/
def rLenSet (K : PySem.W.Frag) (P : Program) (w : World) : List V → Hp → VK → Prop := fun xs H Q => ∃ (a : Addr) (L : List (Addr × List Int)), xs = [V.ref a] ∧ H a = some (SetTO P w a L) ∧ TupsAt K H L ∧ ((L.map (·.2)).Nodup → Q (.int L.length) H)
theorem cr_lenSet {K : PySem.W.Frag} {P : Program} {w : World} (hK : X.K = K) (hP : X.prog = P) (hw : X.w = w) : CallR X (.builtin "len") (rLenSet K P w) := by
  subst hK hP hw
  intro pins s σ H xs us Q I r h
  obtain ⟨a, L, rfl, ha, hL, q⟩ := h
  obtain ⟨es, ep, t, R⟩ := ((I.hok a _ ha).1 : SetT0 X.prog X.w s.heap a L).full fun p hp => I.isT (hL p hp)
  rw [Vals.ref1 r]
  obtain ⟨o, ho, hex, hd⟩ := R.ob
  have few := R.few
  refine call_len_set ho hex hd R.fits (by rw [R.size]; omega) ⟨.int L.length, H, I.tok _, ⟨_, by rw [R.size]⟩, q R.nd⟩
end
/-! ### data -/
def lim {α : Type} (B : Nat) (l : List α) : Option (List α) := if l.length ≤ B then some l else none
/-- the different ones, in the order in which they come first -/
def dd : List (List Int) → List (List Int)
  | [] => []
  | k :: l => k :: (dd l).filter fun j => !decide (j = k)
theorem dd_mem : ∀ {l : List (List Int)} {k : List Int}, k ∈ dd l ↔ k ∈ l
  | [], _ => Iff.rfl
  | a :: l, k => by
    unfold dd
    rw [List.mem_cons, List.mem_cons, List.mem_filter, dd_mem]
    by_cases h : k = a <;> simp [h]
theorem dd_nodup : ∀ l : List (List Int), (dd l).Nodup
  | [] => List.nodup_nil
  | a :: l => by
    unfold dd
    refine List.nodup_cons.mpr ⟨fun h => ?_, (dd_nodup l).sublist List.filter_sublist⟩
    have := (List.mem_filter.mp h).2
    simp at this
theorem dd_len {L l : List (List Int)} (h : L.Nodup) (hm : ∀ k, k ∈ L ↔ k ∈ l) : L.length = (dd l).length :=
  ((List.perm_ext_iff_of_nodup h (dd_nodup l)).mpr fun k => (hm k).trans dd_mem.symm).length_eq
def dOf {β : Type} (l : List (List Int × β)) : List (List Int × β) := l.foldl (fun d kv => dPut d kv.1 kv.2) []
theorem dOf_snoc {β : Type} (l : List (List Int × β)) (k : List Int) (x : β) : dOf (l ++ [(k, x)]) = dPut (dOf l) k x := by
  unfold dOf
  rw [List.foldl_append] <;> rfl
theorem dPut_len {β : Type} (d : List (List Int × β)) (k : List Int) (x : β) : (dPut d k x).length ≤ d.length + 1 := by
  unfold dPut
  split
  · rw [List.length_map]; omega
  · simp
theorem dOf_len {β : Type} (l : List (List Int × β)) : (dOf l).length ≤ l.length := by
  have : ∀ (l d : List (List Int × β)), (l.foldl (fun d kv => dPut d kv.1 kv.2) d).length ≤ d.length + l.length := by
    intro l
    induction l with
    | nil => intro d; simp
    | cons a l ih =>
      intro d
      have h1 := ih (dPut d a.1 a.2)
      have h2 := dPut_len d a.1 a.2
      rw [List.foldl_cons, List.length_cons]
      omega
  have := this l []
  simpa [dOf] using this
/-! ### what is filled step by step -/
section
variable {α β δ : Type} {ra : Rp α} {rb : Rp β} {σ : L2.St} {F H : Hp} {cs : Cs} {K : PySem.W.Frag} {te tk tv : TE} {wi : TI} {g : TG} {tt : TT} {vs : List Nat} {P : Program} {w : World} {ta : Acc}
def EC (cell : Addr → δ → Cp) (te : TE) (σ : L2.St) (F : Hp) (cs : Cs) (m : Option δ) : Prop := ∀ d, m = some d → ∀ c F1 H, Ex F F1 → Cov c F1 cs H → ∀ Q : VK, (∀ p F2 H2, Ex F1 F2 → Cov c F2 (cs ++ [(p, cell p d)]) H2 → c.H0 p = none → Q (.ref p) H2) → te σ H Q
def AT (cell : Addr → List β → Cp) (B : Nat) (ta : Acc) (σ : L2.St) (F : Hp) (cs : Cs) (m : Option β) : Prop := ∀ z, m = some z → ∀ c F1 H D acc, Ex F F1 → Cov c F1 (cs ++ [(D, cell D acc)]) H → acc.length < B → ∀ Nx : Hp → Prop, (∀ F2 H2, Ex F1 F2 → Cov c F2 (cs ++ [(D, cell D (acc ++ [z]))]) H2 → Nx H2) → ta σ H D Nx
theorem ec_acc {cell : Addr → List β → Cp} {B : Nat} {o0 : Addr → HO} {m : Option (List α)} {t : α → Option Bool} {f : α → Option β} {S : α → Hp → L2.St → Prop} (h0 : ∀ D F, (cell D []).p F (o0 D)) (hw : EI ra wi σ F cs m) (hg : GT g ra K (wipe σ vs) S) (hs : ∀ d F σ2, S d F σ2 → wipe σ2 vs = wipe σ vs)
    (ht : ∀ d F1 σ2, Ex F F1 → S d F1 σ2 → ET tt σ2 F1 cs (t d)) (he : ∀ d F1 σ2, Ex F F1 → S d F1 σ2 → AT cell B ta σ2 F1 cs (f d)) : EC cell (tAcc o0 wi g tt ta vs) σ F cs (o1 (lim B) (o1 (oLc t f) m)) := fun r q c F1 H1 e1 k1 Q hQ => by
  obtain ⟨r', q, qB⟩ := o1_some q
  unfold lim at qB
  split at qB
  case isFalse => cases qB
  rename_i hB
  cases qB
  obtain ⟨ds, q1, q2⟩ := o1_some q
  unfold oLc at q2
  split at q2
  case isFalse => cases q2
  refine hw ds q1 c F1 H1 e1 k1 _ fun J F2 H2 e2 k2 G => fun D hD => ?_
  have hD0 := k2.dom D hD
  refine ⟨fun i m H => m = ds.length - i ∧ i ≤ ds.length ∧ ∃ F' acc rest, Ex F2 F' ∧ oMap t f (ds.drop i) = some rest ∧ r = acc ++ rest ∧ Cov c F' (cs ++ [(D, cell D acc)]) H,
    ⟨ds.length, by simp, Nat.zero_le _, F2, [], r, Evl.Ex.refl _, q2, rfl, k2.own hD (h0 D F2)⟩, ?_⟩
  rintro i m H ⟨rfl, hi, F', acc, rest, e3, hr, eq, k3⟩
  by_cases hlt : i < ds.length
  · have hd : ds[i]? = some ds[i] := by simp [hlt]
    obtain ⟨g1, g2⟩ := G.go i _ hd c F' _ H e3 k3
    refine .inr ⟨g1, fun H => ∃ F' acc rest, Ex F2 F' ∧ oMap t f (ds.drop (i + 1)) = some rest ∧ r = acc ++ rest ∧ Cov c F' (cs ++ [(D, cell D acc)]) H, fun H' ⟨F', acc, rest, z⟩ => ⟨ds.length - (i + 1), by omega, rfl, hlt, F', acc, rest, z⟩, fun x H' y => ?_⟩
    obtain ⟨F4, e4, c4, r4⟩ := g2 x H' y
    have k4 := c4 c _ k3
    rw [oMap_drop hd] at hr
    obtain ⟨b, h1, hr⟩ := bind_some hr
    refine hg c F4 _ H' x _ k4 r4 _ fun σ2 s2 => ⟨hs _ _ _ s2, ?_⟩
    have kk : Cov c F4 cs H' := by
      have z := k4.keepN cs.length
      rw [List.take_left] at z
      exact z
    have e04 : Ex F F4 := ((e1.trans e2).trans e3).trans e4
    refine ht _ F4 σ2 e04 s2 b h1 _ F4 H' (Evl.Ex.refl _) kk.base _ fun F5 H5 e5 k5 => ?_
    have k5' : Cov c F5 (cs ++ [(D, cell D acc)]) H5 := k4.back k5 (Cov.old_ps k5)
    cases b with
    | true =>
      obtain ⟨z, h2, hr⟩ := bind_some hr
      obtain ⟨rr, h3, hr⟩ := bind_some hr
      cases hr
      show ta σ2 H5 D _
      have la : acc.length < B := by rw [eq, List.length_append, List.length_cons] at hB; omega
      refine he _ F4 σ2 e04 s2 z h2 c F5 H5 D acc e5 k5' la _ fun F6 H6 e6 k6 => ⟨F6, acc ++ [z], rr, ((e3.trans e4).trans e5).trans e6, h3, by rw [eq]; simp, k6⟩
    | false => exact ⟨F5, acc, rest, (e3.trans e4).trans e5, hr, eq, k5'⟩
  · have e : i = ds.length := by omega
    subst e
    rw [List.drop_length] at hr
    cases hr
    rw [List.append_nil] at eq
    subst eq
    exact .inl ⟨G.stop c F' _ H e3 k3, hQ D F' H (e2.trans e3) k3 hD0⟩
/-! sets -/
def SetOk (F : Hp) (L : List (Addr × List Int)) (ks : List (List Int)) : Prop := (∀ p ∈ L, F p.1 = some (.tup (p.2.map V.int))) ∧ ∀ k, k ∈ L.map (·.2) ↔ k ∈ ks
theorem SetOk.up {F F' : Hp} {L : List (Addr × List Int)} {ks : List (List Int)} (e : Ex F F') (h : SetOk F L ks) : SetOk F' L ks := ⟨fun p hp => e _ _ (h.1 p hp), h.2⟩
def cSet (P : Program) (w : World) (D : Addr) (ks : List (List Int)) : Cp := ⟨fun F o => ∃ L, o = SetTO P w D L ∧ SetOk F L ks ∧ L.length ≤ ks.length, fun e ⟨L, h1, h2, h3⟩ => ⟨L, h1, h2.up e, h3⟩, fun ⟨_, h, _⟩ => by subst h; trivial⟩
def rSet (P : Program) (w : World) : Rp (List (List Int)) := ⟨fun F v ks => ∃ a L, v = .ref a ∧ F a = some (SetTO P w a L) ∧ SetOk F L ks, fun e ⟨a, L, h1, h2, h3⟩ => ⟨a, L, h1, e _ _ h2, h3.up e⟩⟩
theorem TupsAt.of {c : Act} {L : List (Addr × List Int)} {ks : List (List Int)} (h : SetOk F L ks) (e : Ex F H) : TupsAt K H L := fun p hp => ext_ e (h.1 p hp)
theorem at_set {m : Option (List Int)} (h : EM (rTup K rInt) te σ F cs m) : AT (cSet P w) 63 (taS K P w te) σ F cs m := fun z q c F1 H D acc e k la Nx hN => by
  have kk : Cov c F1 cs H := by
    have z := k.keepN cs.length
    rw [List.take_left] at z
    exact z
  refine h z q _ F1 H e kk.base _ fun v F2 H2 e2 k2 r2 => ?_
  have k3 : Cov c F2 (cs ++ [(D, cSet P w D acc)]) H2 := k.back k2 (Cov.old_ps k2)
  obtain ⟨_, t, rfl, ht⟩ := decI_ok r2
  obtain ⟨f1, _, o, f3, L, rfl, f4, f5⟩ := k3.cell (D, cSet P w D acc) (List.mem_append_right _ List.mem_cons_self)
  refine ⟨t, z, L, rfl, ext_ k3.ex ht, f3, TupsAt.of (c := c) f4 k3.ex, by omega, fun L' c1 c2 => hN F2 _ e2 ?_⟩
  have k4 := k3.set cs.length (p := D) (x := cSet P w D acc) (x' := cSet P w D (acc ++ [z])) (o := SetTO P w D L') (by simp) ?_
  · rw [List.set_append_right _ _ (Nat.le_refl _), Nat.sub_self] at k4
    exact k4
  · by_cases q : z ∈ L.map (·.2)
    · rw [c1 q]
      refine ⟨L, rfl, ⟨f4.1, fun j => ?_⟩, by simp; omega⟩
      rw [f4.2, List.mem_append, List.mem_singleton]
      exact ⟨.inl, fun y => y.elim id fun y => by rw [y, ← f4.2]; exact q⟩
    · have pm := c2 q
      refine ⟨L', rfl, ⟨fun p hp => ?_, fun j => ?_⟩, by rw [pm.length_eq]; simp; omega⟩
      · rcases List.mem_cons.mp (pm.mem_iff.mp hp) with rfl | hp
        · exact ht
        · exact f4.1 p hp
      · rw [(pm.map (·.2)).mem_iff, List.map_cons, List.mem_cons, f4.2, List.mem_append, List.mem_singleton]
        exact Or.comm
theorem EC.set {m : Option (List (List Int))} (h : EC (cSet P w) te σ F cs m) : EM (rSet P w) te σ F cs m := fun d q c F1 H e k Q hQ => by
  refine h d q c F1 H e k Q fun p F2 H2 e2 k2 n2 => ?_
  obtain ⟨f1, _, o, f3, L, rfl, f4, f5⟩ := k2.cell (p, cSet P w p d) (List.mem_append_right _ List.mem_cons_self)
  exact hQ (.ref p) _ H2 (e2.trans (Ex.new f1)) (k2.toHead.freeze f3 n2 |>.perm (by rw [List.append_nil])) ⟨p, L, rfl, upd_same, f4.up (Ex.new f1)⟩
theorem em_scT {m : Option (List α)} {t : α → Option Bool} {f : α → Option (List Int)} {S : α → Hp → L2.St → Prop} (hw : EI ra wi σ F cs m) (hg : GT g ra K (wipe σ vs) S) (hs : ∀ d F σ2, S d F σ2 → wipe σ2 vs = wipe σ vs)
    (ht : ∀ d F1 σ2, Ex F F1 → S d F1 σ2 → ET tt σ2 F1 cs (t d)) (he : ∀ d F1 σ2, Ex F F1 → S d F1 σ2 → EM (rTup K rInt) te σ2 F1 cs (f d)) : EM (rSet P w) (tAcc (fun D => SetTO P w D []) wi g tt (taS K P w te) vs) σ F cs (o1 (lim 63) (o1 (oLc t f) m)) :=
  EC.set (ec_acc (fun D F => ⟨[], rfl, ⟨fun p hp => (by cases hp), fun k => Iff.rfl⟩, Nat.le_refl _⟩) hw hg hs ht fun d F1 σ2 e s => at_set (he d F1 σ2 e s))
theorem em_lenS {m : Option (List (List Int))} (h : EM (rSet P w) te σ F cs m) : EM rInt (tCB (rLenSet K P w) (tCons te tNil)) σ F cs (m.map fun l => ((dd l).length : Int)) := fun d q c F1 H e k Q hQ => by
  cases m with
  | none => cases q
  | some ks =>
    cases q
    refine h ks rfl c F1 H e k _ fun v F2 H2 e2 k2 r2 => ?_
    obtain ⟨a, L, rfl, h1, h2⟩ := r2
    exact ⟨a, L, rfl, k2.ex _ _ h1, TupsAt.of (c := c) h2 k2.ex, fun nd => hQ _ F2 H2 e2 k2 (by show V.int _ = V.int ((dd ks).length : Int); rw [← dd_len nd h2.2, List.length_map])⟩
theorem rs_tups : ∀ {vs : List V} {ks : List (List Int)}, Rs (rTup K rInt) F vs ks → ∃ L : List (Addr × List Int), vs = L.map (fun p => V.ref p.1) ∧ L.map (·.2) = ks ∧ ∀ p ∈ L, F p.1 = some (.tup (p.2.map V.int))
  | [], [], .nil => ⟨[], rfl, rfl, fun p hp => by cases hp⟩
  | v :: vs, k :: ks, .cons r t => by
    obtain ⟨L, h1, h2, h3⟩ := rs_tups t
    obtain ⟨_, b, rfl, hb⟩ := decI_ok r
    refine ⟨(b, k) :: L, by rw [h1]; rfl, by rw [← h2]; rfl, fun p hp => ?_⟩
    rcases List.mem_cons.mp hp with rfl | hp
    · exact hb
    · exact h3 p hp
theorem em_setL {m : Option (List (List Int))} (h : EL K (rTup K rInt) te σ F cs m) : EM (rSet P w) (tCB (rSetOfT K P w) (tCons te tNil)) σ F cs (o1 (lim 63) m) := fun d q c F1 H e k Q hQ => by
  obtain ⟨ks, q1, q2⟩ := o1_some q
  unfold lim at q2
  split at q2
  case isFalse => cases q2
  rename_i hB
  cases q2
  refine h _ q1 c F1 H e k _ fun v F2 H2 e2 k2 r2 => ?_
  obtain ⟨a, vs, rfl, h1, h2⟩ := r2.see k2
  obtain ⟨L, rfl, h4, h5⟩ := rs_tups h2
  have hl : L.length = d.length := by rw [← h4, List.length_map]
  refine ⟨a, L, rfl, h1, fun p hp => ext_ k2.ex (h5 p hp), by omega, fun b M hb c1 c2 => ?_⟩
  refine hQ (.ref b) _ _ (e2.trans (Ex.new (k2.fnone hb))) (k2.lay hb) ⟨b, M, rfl, upd_same, fun p hp => Ex.new (k2.fnone hb) _ _ (h5 p (c1 p hp)), fun j => ?_⟩
  rw [← h4]
  constructor
  · intro hj
    obtain ⟨p, hp, rfl⟩ := List.mem_map.mp hj
    exact List.mem_map.mpr ⟨p, c1 p hp, rfl⟩
  · intro hj
    obtain ⟨p, hp, rfl⟩ := List.mem_map.mp hj
    exact c2 p hp
end
/-! ### dicts by comprehension; get; setdefault -/
section
variable {α β δ : Type} {ra : Rp α} {rb : Rp β} {σ : L2.St} {F H : Hp} {cs : Cs} {K : PySem.W.Frag} {te tk tv td ty tx : TE} {wi : TI} {g : TG} {tt : TT} {vs : List Nat} {P : Program} {w : World} {ta : Acc}
theorem at_dict {mk : Option (List Int)} {mv : Option β} (hk : EM (rTup K rInt) tk σ F cs mk) (hv : EM rb tv σ F cs mv) : AT (fun _ acc => cDic rb (dOf acc)) 16000000 (taD tk tv) σ F cs (oP2 mk mv) := fun z q c F1 H D acc e k la Nx hN => by
  obtain ⟨z1, z2⟩ := z
  obtain ⟨q1, q2⟩ := oP2_some q
  have kk : Cov c F1 cs H := by
    have z := k.keepN cs.length
    rw [List.take_left] at z
    exact z
  refine hk z1 q1 _ F1 H e kk.base _ fun v F2 H2 e2 k2 r2 => ?_
  have k3 : Cov c F2 (cs ++ [(D, cDic rb (dOf acc))]) H2 := k.back k2 (Cov.old_ps k2)
  have kk3 : Cov c F2 cs H2 := by
    have z := k3.keepN cs.length
    rw [List.take_left] at z
    exact z
  refine hv z2 q2 _ F2 H2 (e.trans e2) kk3.base _ fun y F3 H3 e3 k4 r3 => ?_
  have k5 : Cov c F3 (cs ++ [(D, cDic rb (dOf acc))]) H3 := k3.back k4 (Cov.old_ps k4)
  obtain ⟨t, rfl, ht⟩ := tup_key k5 ((rTup K rInt).up e3 r2)
  obtain ⟨f1, _, o, f3, kvs, rfl, f4⟩ := k5.cell (D, cDic rb (dOf acc)) (List.mem_append_right _ List.mem_cons_self)
  have dl := dOf_len acc
  refine ⟨t, _, kvs, rfl, ht, f3, sz_lt (by rw [f4.length]; omega), hN F3 _ (e2.trans e3) ?_⟩
  have k6 := k5.set cs.length (p := D) (x := cDic rb (dOf acc)) (x' := cDic rb (dOf (acc ++ [(z1, z2)]))) (o := .dT (putK kvs (kI z1) y)) (by simp) ⟨_, rfl, by rw [dOf_snoc]; exact f4.put r3⟩
  rw [List.set_append_right _ _ (Nat.le_refl _), Nat.sub_self] at k6
  exact k6
theorem EC.dict {m : Option (List (List Int × β))} (h : EC (fun _ acc => cDic rb (dOf acc)) te σ F cs m) : EM (rDic rb) te σ F cs (m.map dOf) := fun d q c F1 H e k Q hQ => by
  cases m with
  | none => cases q
  | some d0 =>
    cases q
    refine h d0 rfl c F1 H e k Q fun p F2 H2 e2 k2 n2 => ?_
    obtain ⟨f1, _, o, f3, kvs, rfl, f4⟩ := k2.cell (p, cDic rb (dOf d0)) (List.mem_append_right _ List.mem_cons_self)
    exact hQ (.ref p) _ H2 (e2.trans (Ex.new f1)) (k2.toHead.freeze f3 n2 |>.perm (by rw [List.append_nil])) ⟨p, kvs, rfl, upd_same, Rkv.up (Ex.new f1) f4⟩
theorem em_dcT {m : Option (List α)} {t : α → Option Bool} {fk : α → Option (List Int)} {fv : α → Option β} {S : α → Hp → L2.St → Prop} (hw : EI ra wi σ F cs m) (hg : GT g ra K (wipe σ vs) S) (hs : ∀ d F σ2, S d F σ2 → wipe σ2 vs = wipe σ vs)
    (ht : ∀ d F1 σ2, Ex F F1 → S d F1 σ2 → ET tt σ2 F1 cs (t d)) (hk : ∀ d F1 σ2, Ex F F1 → S d F1 σ2 → EM (rTup K rInt) tk σ2 F1 cs (fk d)) (hv : ∀ d F1 σ2, Ex F F1 → S d F1 σ2 → EM rb tv σ2 F1 cs (fv d)) :
    EM (rDic rb) (tAcc (fun _ => .dT []) wi g tt (taD tk tv) vs) σ F cs (Option.map dOf (o1 (lim 16000000) (o1 (oLc t fun d => oP2 (fk d) (fv d)) m))) :=
  EC.dict (ec_acc (fun D F => ⟨[], rfl, .nil⟩) hw hg hs ht fun d F1 σ2 e s => at_dict (hk d F1 σ2 e s) (hv d F1 σ2 e s))
theorem see_isD {c : Act} {v : V} {ds : List (List Int × β)} {p : Addr} {kvs : List (List L2.Key × V)} (h : H p = some (.dT kvs)) : IsD H p := .inr ⟨kvs, .inl h⟩
/-- d.get(k) -/
def dGet1G (ds : List (List Int × β)) (k : List Int) : Option (Option β) := some (dGet ds k)
theorem em_dget1 {md : Option (List (List Int × β))} {mk : Option (List Int)} (n : NN rb) (hd : ED rb td σ F cs md) (hk : EM (rTup K rInt) ty σ F cs mk) : EM (rOpt rb) (tDGet1 td ty) σ F cs (o2 dGet1G md mk) := fun d q c F1 H e k Q hQ => by
  obtain ⟨b, a, q1, q2, q3⟩ := o2_some q
  cases q3
  refine hd b q1 c F1 H e k _ fun x F2 H2 e2 k2 r2 => ?_
  obtain ⟨p, kvs, rfl, h1, h2⟩ := r2.see k2
  refine ⟨p, rfl, .inr ⟨kvs, .inl h1⟩, hk a q2 c F2 H2 (e.trans e2) k2 _ fun v F3 H3 e3 k3 r3 => ?_⟩
  obtain ⟨p', kvs', ep, h1, h2⟩ := (r2.up e3).see k3
  cases ep
  obtain ⟨t, rfl, ht⟩ := tup_key k3 r3
  have g := h2.get (k := a)
  refine ⟨_, DGet.t h1 ht, hQ _ F3 H3 (e2.trans e3) k3 ?_⟩
  revert g
  cases dGet b a with
  | none => intro g; rw [show valV kvs' (kI a) = none from g]; rfl
  | some x => rintro ⟨v, g, r⟩; rw [g]; exact ⟨n _ _ _ r, r⟩
/-- d.get(k, x) -/
def dGet2G (ds : List (List Int × β)) (k : List Int) (x : β) : Option β := some ((dGet ds k).getD x)
theorem em_dget2 {md : Option (List (List Int × β))} {mk : Option (List Int)} {mx : Option β} (hd : ED rb td σ F cs md) (hk : EM (rTup K rInt) ty σ F cs mk) (hx : EM rb tx σ F cs mx) : EM rb (tDGet2 td ty tx) σ F cs (o3 dGet2G md mk mx) := fun d q c F1 H e k Q hQ => by
  obtain ⟨b, a, y, q1, q2, q4, q3⟩ := o3_some q
  cases q3
  refine hd b q1 c F1 H e k _ fun x F2 H2 e2 k2 r2 => ?_
  obtain ⟨p, kvs, rfl, h1, h2⟩ := r2.see k2
  refine ⟨p, rfl, .inr ⟨kvs, .inl h1⟩, hk a q2 c F2 H2 (e.trans e2) k2 _ fun v F3 H3 e3 k3 r3 => hx y q4 c F3 H3 ((e.trans e2).trans e3) k3 _ fun z F4 H4 e4 k4 r4 => ?_⟩
  obtain ⟨p', kvs', ep, h1, h2⟩ := ((r2.up e3).up e4).see k4
  cases ep
  obtain ⟨t, rfl, ht⟩ := tup_key k4 ((rTup K rInt).up e4 r3)
  have g := h2.get (k := a)
  refine ⟨_, DGet.t h1 ht, hQ _ F4 H4 ((e2.trans e3).trans e4) k4 ?_⟩
  revert g
  cases dGet b a with
  | none => intro g; rw [show valV kvs' (kI a) = none from g]; exact r4
  | some x => rintro ⟨v, g, r⟩; rw [g]; exact r
/-- d.setdefault(k, x), keys tuples -/
def tDSetdT (td ty tx : TE) : TE := fun σ H Q => td σ H fun x H1 => ∃ a, x = .ref a ∧ IsD H1 a ∧ ty σ H1 fun y H2 => tx σ H2 fun z H3 => ∃ (kvs : List (List L2.Key × V)) (k : List L2.Key) (b : Addr), H3 a = some (.dT kvs) ∧ y = .ref b ∧ H3 b = some (.tup (k.map kV)) ∧ kvs.length < sizeLine ∧
  (∀ v, valV kvs k = some v → Q v H3) ∧ (valV kvs k = none → Q z (upd H3 a (.dT (putK kvs k z))))
theorem pe_dsetdT {X : Cx} {o e f : Expr} {apos cpos : Pos} (hu : X.A.units + 2 < cLine) (ho : PE X o td) (he : PE X e ty) (hf : PE X f tx) (m : M2 X o "setdefault" apos e f cpos) : PE X (.Call (.Attribute o "setdefault" apos) [e, f] [] cpos) (tDSetdT td ty tx) := by
  refine ⟨fun pins s σ H Q I h => ?_⟩
  refine wpAny_Call_method m.base m.few m.line PySem.F.plainAttrs_dict PySem.F.slot_dict_setdefault PySem.F.type_dict_setdefault (thn (ho.run pins s σ H _ I h) fun u s1 ⟨x, H1, I1, rx, a, ex, d, q1⟩ => ?_)
  subst ex
  cases (show u = Value.ref a from rx)
  obtain ⟨t1, t2, _⟩ := isD_at I1 d
  refine ⟨t1, t2, ?_⟩
  rw [m.trees]
  refine Calls.callWith_builtin rfl (Calls.evalArgs_plain (Calls.spliced_cons (thn (he.run pins s1 σ H1 _ I1 q1) fun iv s2 ⟨y, H2, I2, ry, q2⟩ => Calls.spliced_cons (thn (hf.run pins s2 σ H2 _ I2 q2) fun fv s3 ⟨z, H3, I3, rz, kvs, k, b, ea, ey, hb, hl, q3, q4⟩ => Calls.spliced_nil ?_))))
  subst ey
  cases (show iv = Value.ref b from ry)
  obtain ⟨z1, hd, xs, rel, dd⟩ := dt_of I3.hok ea
  have hz1 : xs.length ≤ sizeLine := by rw [← Paired.length rel]; exact z1
  have q0 := rel.val k
  refine call_setdefault_heap (hsz := hz1) (knd := tupleKind (mixKind X.prog X.w)) (tupleKind_room_in1 (by omega)) (key_of I3.hok hb) hd dd (fun p hp => ?_) fun hn h' dd' hs' => ?_
  · rw [hp] at q0
    cases e0 : valV kvs k with
    | none => rw [e0] at q0; exact (show False from q0).elim
    | some v0 => rw [e0] at q0; exact ⟨v0, H3, I3.tok _, q0, q3 v0 e0⟩
  · rw [hn] at q0
    cases e0 : valV kvs k with
    | some v0 => rw [e0] at q0; exact (show False from q0).elim
    | none =>
      have hl2 : (putK kvs k z).length ≤ sizeLine := by have := length_putK kvs k z; omega
      obtain ⟨q, es, ep, hq, h2, h3, h4, _, h5⟩ := dd'
      refine ⟨z, upd H3 a (.dT (putK kvs k z)), d_write (ob := .dT (putK kvs k z)) I3 (by rw [ea]; exact True.intro) hs' ⟨q, hq⟩ ⟨hl2, hd, _, (rel.put k hb rz).keeps fun c ys ec => ?_, q, es, ep, hq, h2, h3, h4, h5⟩, rz, q4 e0⟩
      rw [upd_ne (ne_of ec ea (fun z => nomatch z))]
      exact ec
def dSetdG (ds : List (List Int × β)) (k : List Int) (x : β) : Option (List (List Int × β)) := if ds.length ≤ 16000000 then some (match dGet ds k with
  | some _ => ds
  | none => dPut ds k x) else none
theorem a_dsetd {c : Act} {D : Ends} {i j : Nat} {p : Addr} {ds ds' : List (List Int × β)} {mv : Option β} {x : β} {mk : Option (List Int)} {kk : List Int} (hx : σ[i]? = some (some (.ref p))) (hj : cs[j]? = some (p, cDic rb ds)) (hk : EM (rTup K rInt) ty σ F cs mk) (hv : EM rb tv σ F cs mv) (h2 : mk = some kk) (h1 : mv = some x) (h3 : dSetdG ds kk x = some ds') (k : Cov c F cs H)
    (n : ∀ F2 H2, Ex F F2 → Cov c F2 (cs.set j (p, cDic rb ds')) H2 → D.nx σ H2) : tDrop (tDSetdT (tVar i) ty tv) D σ H := by
  obtain ⟨_, _, o, g3, kvs, rfl, g4⟩ := k.at_ j hj
  refine ⟨_, hx, p, rfl, .inr ⟨kvs, .inl g3⟩, ?_⟩
  refine hk kk h2 c F H (Evl.Ex.refl _) k _ fun y F2 H2 e2 k2 r2 => hv x h1 c F2 H2 e2 k2 _ fun v F3 H3 e3 k3 r3 => ?_
  obtain ⟨_, _, o, g5, kvs', rfl, g6⟩ := k3.at_ j hj
  obtain ⟨t, rfl, ht⟩ := tup_key k3 ((rTup K rInt).up e3 r2)
  unfold dSetdG at h3
  split at h3
  case isFalse => cases h3
  rename_i hz
  have g := g6.get (k := kk)
  refine ⟨kvs', _, t, g5, rfl, ht, sz_lt (by rw [g6.length]; omega), fun w hw => ?_, fun hw => ?_⟩
  · cases e0 : dGet ds kk with
    | none => rw [e0] at g; rw [show valV kvs' (kI kk) = none from g] at hw; cases hw
    | some x0 =>
      rw [e0] at h3
      cases h3
      refine n F3 H3 (e2.trans e3) ?_
      have es : cs.set j (p, cDic rb ds) = cs := by
        obtain ⟨h4, h5⟩ := List.getElem?_eq_some_iff.mp hj
        rw [← h5, List.set_getElem_self]
      rw [es]
      exact k3
  · cases e0 : dGet ds kk with
    | some x0 => rw [e0] at g; obtain ⟨v0, g, _⟩ := g; rw [show valV kvs' (kI kk) = none from hw] at g; cases g
    | none =>
      rw [e0] at h3
      cases h3
      exact n F3 _ (e2.trans e3) (k3.set j hj ⟨_, rfl, g6.put r3⟩)
theorem q_dsetd {c : Act} {D : Ends} {tz : TS} {i j : Nat} {p : Addr} {ds ds' : List (List Int × β)} {mv : Option β} {x : β} {mk : Option (List Int)} {kk : List Int} (hx : σ[i]? = some (some (.ref p))) (hj : cs[j]? = some (p, cDic rb ds)) (hk : EM (rTup K rInt) ty σ F cs mk) (hv : EM rb tv σ F cs mv) (h2 : mk = some kk) (h1 : mv = some x) (h3 : dSetdG ds kk x = some ds') (k : Cov c F cs H)
    (n : ∀ F2 H2, Ex F F2 → Cov c F2 (cs.set j (p, cDic rb ds')) H2 → tz D σ H2) : tSeq (tDrop (tDSetdT (tVar i) ty tv)) tz D σ H := a_dsetd (D := { D with nx := tz D }) hx hj hk hv h2 h1 h3 k n
/-! dicts keyed by ints: by comprehension, asked by in -/
def Rki (F : Hp) : List (L2.Key × V) → List Int → Prop := fun kvs ds => ∀ i, (valV kvs (Sum.inl i)).isSome = true ↔ i ∈ ds
def rDicI : Rp (List Int) := ⟨fun H v ds => ∃ a kvs, v = .ref a ∧ H a = some (.dK kvs) ∧ Rki H kvs ds, fun e ⟨a, kvs, h1, h2, h3⟩ => ⟨a, kvs, h1, e _ _ h2, h3⟩⟩
def cDicI (ds : List Int) : Cp := ⟨fun F o => ∃ kvs, o = .dK kvs ∧ Rki F kvs ds ∧ kvs.length ≤ ds.length, fun e ⟨kvs, h1, h2⟩ => ⟨kvs, h1, h2⟩, fun ⟨_, h, _⟩ => by subst h; trivial⟩
theorem at_dictI {mk : Option Int} {mv : Option β} (hk : EM rInt tk σ F cs mk) (hv : EM rb tv σ F cs mv) : AT (fun _ acc => cDicI acc) 16000000 (taDI tk tv) σ F cs (o2 (fun k _ => some k) mk mv) := fun z q c F1 H D acc e k la Nx hN => by
  obtain ⟨z1, z2, q1, q2, q3⟩ := o2_some q
  have q3 : z1 = z := Option.some.inj q3
  subst q3
  have kk : Cov c F1 cs H := by
    have z := k.keepN cs.length
    rw [List.take_left] at z
    exact z
  refine hk z1 q1 _ F1 H e kk.base _ fun v F2 H2 e2 k2 r2 => ?_
  have k3 : Cov c F2 (cs ++ [(D, cDicI acc)]) H2 := k.back k2 (Cov.old_ps k2)
  have kk3 : Cov c F2 cs H2 := by
    have z := k3.keepN cs.length
    rw [List.take_left] at z
    exact z
  refine hv z2 q2 _ F2 H2 (e.trans e2) kk3.base _ fun y F3 H3 e3 k4 r3 => ?_
  have k5 : Cov c F3 (cs ++ [(D, cDicI acc)]) H3 := k3.back k4 (Cov.old_ps k4)
  obtain ⟨f1, _, o, f3, kvs, rfl, f4, f5⟩ := k5.cell (D, cDicI acc) (List.mem_append_right _ List.mem_cons_self)
  refine ⟨Sum.inl z1, kvs, r2, f3, sz_lt (by omega), hN F3 _ (e2.trans e3) ?_⟩
  have k6 := k5.set cs.length (p := D) (x := cDicI acc) (x' := cDicI (acc ++ [z1])) (o := .dK (putK kvs (Sum.inl z1) y)) (by simp) ⟨_, rfl, fun i => ?_, by have := length_putK kvs (Sum.inl z1 : L2.Key) y; simp; omega⟩
  · rw [List.set_append_right _ _ (Nat.le_refl _), Nat.sub_self] at k6
    exact k6
  · rw [List.mem_append, List.mem_singleton, ← f4 i]
    rw [valV_put]
    by_cases h : i = z1
    · rw [if_pos (by rw [h])]
      simp [h]
    · rw [if_neg (by intro z; cases z; exact h rfl)]
      simp [h]
theorem EC.dictI {m : Option (List Int)} (h : EC (fun _ acc => cDicI acc) te σ F cs m) : EM rDicI te σ F cs m := fun d q c F1 H e k Q hQ => by
  refine h d q c F1 H e k Q fun p F2 H2 e2 k2 n2 => ?_
  obtain ⟨f1, _, o, f3, kvs, rfl, f4, _⟩ := k2.cell (p, cDicI d) (List.mem_append_right _ List.mem_cons_self)
  exact hQ (.ref p) _ H2 (e2.trans (Ex.new f1)) (k2.toHead.freeze f3 n2 |>.perm (by rw [List.append_nil])) ⟨p, kvs, rfl, upd_same, f4⟩
theorem em_dcI {m : Option (List α)} {t : α → Option Bool} {fk : α → Option Int} {fv : α → Option β} {S : α → Hp → L2.St → Prop} (hw : EI ra wi σ F cs m) (hg : GT g ra K (wipe σ vs) S) (hs : ∀ d F σ2, S d F σ2 → wipe σ2 vs = wipe σ vs)
    (ht : ∀ d F1 σ2, Ex F F1 → S d F1 σ2 → ET tt σ2 F1 cs (t d)) (hk : ∀ d F1 σ2, Ex F F1 → S d F1 σ2 → EM rInt tk σ2 F1 cs (fk d)) (hv : ∀ d F1 σ2, Ex F F1 → S d F1 σ2 → EM rb tv σ2 F1 cs (fv d)) :
    EM rDicI (tAcc (fun _ => .dK []) wi g tt (taDI tk tv) vs) σ F cs (o1 (lim 16000000) (o1 (oLc t fun d => o2 (fun k _ => some k) (fk d) (fv d)) m)) :=
  EC.dictI (ec_acc (fun D F => ⟨[], rfl, fun i => by simp [valV], Nat.le_refl _⟩) hw hg hs ht fun d F1 σ2 e s => at_dictI (hk d F1 σ2 e s) (hv d F1 σ2 e s))
def iInG (k : Int) (ds : List Int) : Option Bool := some (decide (k ∈ ds))
def iNotInG (k : Int) (ds : List Int) : Option Bool := some (!decide (k ∈ ds))
theorem em_diI {md : Option (List Int)} {mk : Option Int} (hk : EM rInt ty σ F cs mk) (hd : EM rDicI td σ F cs md) : EM rBool (tDIn ty td) σ F cs (o2 iInG mk md) := fun d q c F1 H e k Q hQ => by
  obtain ⟨a, b, q1, q2, q3⟩ := o2_some q
  cases q3
  refine hk a q1 c F1 H e k _ fun v F2 H2 e2 k2 r2 => hd b q2 c F2 H2 (e.trans e2) k2 _ fun x F3 H3 e3 k3 r3 => ?_
  obtain ⟨p, kvs, rfl, h1, h2⟩ := r3
  cases r2
  refine ⟨p, _, rfl, DGet.k (k := Sum.inl a) (k3.ex _ _ h1), hQ _ F3 H3 (e2.trans e3) k3 ?_⟩
  show V.bl _ = V.bl _
  refine congrArg V.bl (Bool.eq_iff_iff.mpr ?_)
  rw [h2 a, decide_eq_true_eq]
theorem em_dniI {md : Option (List Int)} {mk : Option Int} (hk : EM rInt ty σ F cs mk) (hd : EM rDicI td σ F cs md) : EM rBool (tDNotIn ty td) σ F cs (o2 iNotInG mk md) := fun d q c F1 H e k Q hQ => by
  obtain ⟨a, b, q1, q2, q3⟩ := o2_some q
  cases q3
  refine hk a q1 c F1 H e k _ fun v F2 H2 e2 k2 r2 => hd b q2 c F2 H2 (e.trans e2) k2 _ fun x F3 H3 e3 k3 r3 => ?_
  obtain ⟨p, kvs, rfl, h1, h2⟩ := r3
  cases r2
  refine ⟨p, _, rfl, DGet.k (k := Sum.inl a) (k3.ex _ _ h1), hQ _ F3 H3 (e2.trans e3) k3 ?_⟩
  show V.bl _ = V.bl _
  refine congrArg V.bl (congrArg (!·) (Bool.eq_iff_iff.mpr ?_))
  rw [h2 a, decide_eq_true_eq]
end
section
variable {X : Cx} {P : Program} {w : World} {K : PySem.W.Frag}
theorem un2 {k : Nat} {A : Around} (r : Room k A) : A.units + 2 < cLine := by have := r.un; omega
theorem un64 {k : Nat} {A : Around} (r : Room k A) : A.units + 64 < cLine := by have := r.un; omega
theorem pe_scTK {elt tg iter : Expr} {ifs : List Expr} {scope : Scope} {own : List (PySem.Str × Nat)} {pos : Pos} {wi : TI} {g : TG} {tt : TT} {te : TE} (hK : X.K = K) (hP : X.prog = P) (hw : X.w = w) (hu : X.A.units + 2 < cLine) (hc : X.calm = true) (hN : X.N.Nodup) (hi : PI X tg iter wi) (ok : BlkOk X.N X.env.scope scope own)
    (hg : ∀ (s : Shared) (H : Hp) (C : Addr) (cl : List (PySem.Str × Addr)) (fp : List Addr), PG (X.blk s H scope (compEnvC scope cl C X.env) fp) tg g) (ht : ∀ (s : Shared) (H : Hp) (C : Addr) (cl : List (PySem.Str × Addr)) (fp : List Addr), PTs (X.blk s H scope (compEnvC scope cl C X.env) fp) ifs tt)
    (he : ∀ (s : Shared) (H : Hp) (C : Addr) (cl : List (PySem.Str × Addr)) (fp : List Addr), PE (X.blk s H scope (compEnvC scope cl C X.env) fp) elt te) (hs : ∀ x, foldedSetIterable iter X.env x = pure x := by intro _; rfl) :
    PE X (.SetComp elt [⟨tg, iter, ifs, 0⟩] scope pos) (tAcc (fun D => SetTO P w D []) wi g tt (taS K P w te) (own.map (·.2))) := by
  subst hK hP hw
  exact pe_scT hu hc hN hi ok hg ht he hs
theorem cr_setOfTK (hK : X.K = K) (hP : X.prog = P) (hw : X.w = w) (hc : X.calm = true) (hu : X.A.units + 64 < cLine) : CallR X (.type "set") (rSetOfT K P w) := by
  subst hK hP hw
  exact cr_setOfT hc hu
end
end Mw

set_option maxHeartbeats 2000000
/-! Ma (printed by fam2.py): the followed state holds several cells. -/
namespace Mw
open PySem PySem.Spec PyProof.Rows L2
open Evl (Ex)
section
variable {σ : L2.St} {F : Hp} {γ A : Type} {cs : γ → Cs} {s : γ} {get : γ → A} {put : γ → A → γ}
theorem mapP_some {α : Type} {m : Option (α × A)} {f : α × A → α × γ} {d : α} {g : γ} (h : m.map f = some (d, g)) : ∃ r, m = some r ∧ f r = (d, g) := Option.map_eq_some_iff.mp h

theorem sm_Gcall0 { ρ : Type} {rr : Rp ρ} {E : XK} {cell : A → Cp} {p : Addr} {i0 j0 : Nat} {m : A → Option (ρ × A)}  (hv : σ[i0]? = some (some (.ref p))) (hi : ∀ s, (cs s)[j0]? = some (p, cell (get s))) (hz : ∀ s a, (cs s).set j0 (p, cell a) = cs (put s a))  : SM rr (tCall (MPsp0 cell  rr m) [] E (tCons (tVar i0) tNil)) σ F (cs s) ((m (get s)).map fun r => (r.1, put s r.2)) cs := fun d g q c F0 H0 f0 k0 Q hQ => by
  refine ⟨_, hv, ?_⟩
  obtain ⟨⟨d1, a0⟩, qm, eq⟩ := mapP_some q
  obtain ⟨ed, eg⟩ := Prod.mk.inj eq
  have ed : d1 = d := ed
  have eg : put s a0 = g := eg
  subst ed eg
  exact ⟨F0, p, get s, d1, a0, rfl, k0.preAt j0 (hi s), qm, fun v F9 H9 k9 r9 => hQ v F9 H9 (k9.fz) (by have z := k0.callAt j0 (hi s) k9; rw [hz] at z; exact z) r9⟩
theorem sf_Gcall0 { ρ : Type} {rr : Rp ρ} {E : XK} {cell : A → Cp} {p : Addr} {i0 j0 : Nat} {m : A → Option (List ρ × A)}  (hv : σ[i0]? = some (some (.ref p))) (hi : ∀ s, (cs s)[j0]? = some (p, cell (get s))) (hz : ∀ s a, (cs s).set j0 (p, cell a) = cs (put s a))  : SF rr (tCall (MFsp0 cell  rr m) [] E (tCons (tVar i0) tNil)) σ F (cs s) ((m (get s)).map fun r => (r.1, put s r.2)) cs := fun d g q c F0 H0 f0 k0 Q hQ => by
  refine ⟨_, hv, ?_⟩
  obtain ⟨⟨d1, a0⟩, qm, eq⟩ := mapP_some q
  obtain ⟨ed, eg⟩ := Prod.mk.inj eq
  have ed : d1 = d := ed
  have eg : put s a0 = g := eg
  subst ed eg
  exact ⟨F0, p, get s, d1, a0, rfl, k0.preAt j0 (hi s), qm, fun l F9 H9 k9 => hQ l F9 H9 (k9.fz) (by have z := k0.callAtN j0 (hi s) k9; rw [hz] at z; exact z) (k0.dom l (k9.newOf))⟩
theorem sm_Gcall1 {α1 ρ : Type} {r1 : Rp α1} {rr : Rp ρ} {E : XK} {t1 : TE} {cell : A → Cp} {p : Addr} {i0 j0 : Nat} {m : A → α1 → Option (ρ × A)} {m1 : Option (α1 × γ)} (hv : σ[i0]? = some (some (.ref p))) (hi : ∀ s, (cs s)[j0]? = some (p, cell (get s))) (hz : ∀ s a, (cs s).set j0 (p, cell a) = cs (put s a)) (h1 : SM r1 t1 σ F (cs s) (m1) cs) : SM rr (tCall (MPsp1 cell r1 rr m) [] E (tCons (tVar i0) (tCons t1 tNil))) σ F (cs s) (s1 (fun a1 s => (m (get s) a1).map fun r => (r.1, put s r.2)) m1) cs := fun d g q c F0 H0 f0 k0 Q hQ => by
  refine ⟨_, hv, ?_⟩
  unfold s1 at q
  obtain ⟨a1, s1, q1, q⟩ := sC_some q
  refine (h1) a1 s1 q1 c F0 H0 f0 k0 _ fun v1 F1 H1 e1 k1 x1 => ?_
  have f1 := f0.trans e1
  have g1 := e1
  obtain ⟨⟨d1, a0⟩, qm, eq⟩ := mapP_some q
  obtain ⟨ed, eg⟩ := Prod.mk.inj eq
  have ed : d1 = d := ed
  have eg : put s1 a0 = g := eg
  subst ed eg
  exact ⟨F1, p, v1, get s1, a1, d1, a0, rfl, k1.preAt j0 (hi s1), x1, qm, fun v F9 H9 k9 r9 => hQ v F9 H9 (g1.trans k9.fz) (by have z := k1.callAt j0 (hi s1) k9; rw [hz] at z; exact z) r9⟩
theorem sf_Gcall1 {α1 ρ : Type} {r1 : Rp α1} {rr : Rp ρ} {E : XK} {t1 : TE} {cell : A → Cp} {p : Addr} {i0 j0 : Nat} {m : A → α1 → Option (List ρ × A)} {m1 : Option (α1 × γ)} (hv : σ[i0]? = some (some (.ref p))) (hi : ∀ s, (cs s)[j0]? = some (p, cell (get s))) (hz : ∀ s a, (cs s).set j0 (p, cell a) = cs (put s a)) (h1 : SM r1 t1 σ F (cs s) (m1) cs) : SF rr (tCall (MFsp1 cell r1 rr m) [] E (tCons (tVar i0) (tCons t1 tNil))) σ F (cs s) (s1 (fun a1 s => (m (get s) a1).map fun r => (r.1, put s r.2)) m1) cs := fun d g q c F0 H0 f0 k0 Q hQ => by
  refine ⟨_, hv, ?_⟩
  unfold s1 at q
  obtain ⟨a1, s1, q1, q⟩ := sC_some q
  refine (h1) a1 s1 q1 c F0 H0 f0 k0 _ fun v1 F1 H1 e1 k1 x1 => ?_
  have f1 := f0.trans e1
  have g1 := e1
  obtain ⟨⟨d1, a0⟩, qm, eq⟩ := mapP_some q
  obtain ⟨ed, eg⟩ := Prod.mk.inj eq
  have ed : d1 = d := ed
  have eg : put s1 a0 = g := eg
  subst ed eg
  exact ⟨F1, p, v1, get s1, a1, d1, a0, rfl, k1.preAt j0 (hi s1), x1, qm, fun l F9 H9 k9 => hQ l F9 H9 (g1.trans k9.fz) (by have z := k1.callAtN j0 (hi s1) k9; rw [hz] at z; exact z) (k1.dom l (k9.newOf))⟩
theorem sm_Gcall2 {α1 α2 ρ : Type} {r1 : Rp α1} {r2 : Rp α2} {rr : Rp ρ} {E : XK} {t1 t2 : TE} {cell : A → Cp} {p : Addr} {i0 j0 : Nat} {m : A → α1 → α2 → Option (ρ × A)} {m1 : Option (α1 × γ)} {m2 : γ → Option (α2 × γ)} (hv : σ[i0]? = some (some (.ref p))) (hi : ∀ s, (cs s)[j0]? = some (p, cell (get s))) (hz : ∀ s a, (cs s).set j0 (p, cell a) = cs (put s a)) (h1 : SM r1 t1 σ F (cs s) (m1) cs) (h2 : ∀ s, SM r2 t2 σ F (cs s) (m2 s) cs) : SM rr (tCall (MPsp2 cell r1 r2 rr m) [] E (tCons (tVar i0) (tCons t1 (tCons t2 tNil)))) σ F (cs s) (s2 (fun a1 a2 s => (m (get s) a1 a2).map fun r => (r.1, put s r.2)) m1 m2) cs := fun d g q c F0 H0 f0 k0 Q hQ => by
  refine ⟨_, hv, ?_⟩
  unfold s2 at q
  obtain ⟨a1, s1, q1, q⟩ := sC_some q
  obtain ⟨a2, s2, q2, q⟩ := sC_some q
  refine (h1) a1 s1 q1 c F0 H0 f0 k0 _ fun v1 F1 H1 e1 k1 x1 => ?_
  have f1 := f0.trans e1
  have g1 := e1
  refine (h2 s1) a2 s2 q2 c F1 H1 f1 k1 _ fun v2 F2 H2 e2 k2 x2 => ?_
  have f2 := f1.trans e2
  have g2 := g1.trans e2
  obtain ⟨⟨d1, a0⟩, qm, eq⟩ := mapP_some q
  obtain ⟨ed, eg⟩ := Prod.mk.inj eq
  have ed : d1 = d := ed
  have eg : put s2 a0 = g := eg
  subst ed eg
  exact ⟨F2, p, v1, v2, get s2, a1, a2, d1, a0, rfl, k2.preAt j0 (hi s2), r1.up (e2) x1, x2, qm, fun v F9 H9 k9 r9 => hQ v F9 H9 (g2.trans k9.fz) (by have z := k2.callAt j0 (hi s2) k9; rw [hz] at z; exact z) r9⟩
theorem sf_Gcall2 {α1 α2 ρ : Type} {r1 : Rp α1} {r2 : Rp α2} {rr : Rp ρ} {E : XK} {t1 t2 : TE} {cell : A → Cp} {p : Addr} {i0 j0 : Nat} {m : A → α1 → α2 → Option (List ρ × A)} {m1 : Option (α1 × γ)} {m2 : γ → Option (α2 × γ)} (hv : σ[i0]? = some (some (.ref p))) (hi : ∀ s, (cs s)[j0]? = some (p, cell (get s))) (hz : ∀ s a, (cs s).set j0 (p, cell a) = cs (put s a)) (h1 : SM r1 t1 σ F (cs s) (m1) cs) (h2 : ∀ s, SM r2 t2 σ F (cs s) (m2 s) cs) : SF rr (tCall (MFsp2 cell r1 r2 rr m) [] E (tCons (tVar i0) (tCons t1 (tCons t2 tNil)))) σ F (cs s) (s2 (fun a1 a2 s => (m (get s) a1 a2).map fun r => (r.1, put s r.2)) m1 m2) cs := fun d g q c F0 H0 f0 k0 Q hQ => by
  refine ⟨_, hv, ?_⟩
  unfold s2 at q
  obtain ⟨a1, s1, q1, q⟩ := sC_some q
  obtain ⟨a2, s2, q2, q⟩ := sC_some q
  refine (h1) a1 s1 q1 c F0 H0 f0 k0 _ fun v1 F1 H1 e1 k1 x1 => ?_
  have f1 := f0.trans e1
  have g1 := e1
  refine (h2 s1) a2 s2 q2 c F1 H1 f1 k1 _ fun v2 F2 H2 e2 k2 x2 => ?_
  have f2 := f1.trans e2
  have g2 := g1.trans e2
  obtain ⟨⟨d1, a0⟩, qm, eq⟩ := mapP_some q
  obtain ⟨ed, eg⟩ := Prod.mk.inj eq
  have ed : d1 = d := ed
  have eg : put s2 a0 = g := eg
  subst ed eg
  exact ⟨F2, p, v1, v2, get s2, a1, a2, d1, a0, rfl, k2.preAt j0 (hi s2), r1.up (e2) x1, x2, qm, fun l F9 H9 k9 => hQ l F9 H9 (g2.trans k9.fz) (by have z := k2.callAtN j0 (hi s2) k9; rw [hz] at z; exact z) (k2.dom l (k9.newOf))⟩
theorem sm_Gcall3 {α1 α2 α3 ρ : Type} {r1 : Rp α1} {r2 : Rp α2} {r3 : Rp α3} {rr : Rp ρ} {E : XK} {t1 t2 t3 : TE} {cell : A → Cp} {p : Addr} {i0 j0 : Nat} {m : A → α1 → α2 → α3 → Option (ρ × A)} {m1 : Option (α1 × γ)} {m2 : γ → Option (α2 × γ)} {m3 : γ → Option (α3 × γ)} (hv : σ[i0]? = some (some (.ref p))) (hi : ∀ s, (cs s)[j0]? = some (p, cell (get s))) (hz : ∀ s a, (cs s).set j0 (p, cell a) = cs (put s a)) (h1 : SM r1 t1 σ F (cs s) (m1) cs) (h2 : ∀ s, SM r2 t2 σ F (cs s) (m2 s) cs) (h3 : ∀ s, SM r3 t3 σ F (cs s) (m3 s) cs) : SM rr (tCall (MPsp3 cell r1 r2 r3 rr m) [] E (tCons (tVar i0) (tCons t1 (tCons t2 (tCons t3 tNil))))) σ F (cs s) (s3 (fun a1 a2 a3 s => (m (get s) a1 a2 a3).map fun r => (r.1, put s r.2)) m1 m2 m3) cs := fun d g q c F0 H0 f0 k0 Q hQ => by
  refine ⟨_, hv, ?_⟩
  unfold s3 at q
  obtain ⟨a1, s1, q1, q⟩ := sC_some q
  obtain ⟨a2, s2, q2, q⟩ := sC_some q
  obtain ⟨a3, s3, q3, q⟩ := sC_some q
  refine (h1) a1 s1 q1 c F0 H0 f0 k0 _ fun v1 F1 H1 e1 k1 x1 => ?_
  have f1 := f0.trans e1
  have g1 := e1
  refine (h2 s1) a2 s2 q2 c F1 H1 f1 k1 _ fun v2 F2 H2 e2 k2 x2 => ?_
  have f2 := f1.trans e2
  have g2 := g1.trans e2
  refine (h3 s2) a3 s3 q3 c F2 H2 f2 k2 _ fun v3 F3 H3 e3 k3 x3 => ?_
  have f3 := f2.trans e3
  have g3 := g2.trans e3
  obtain ⟨⟨d1, a0⟩, qm, eq⟩ := mapP_some q
  obtain ⟨ed, eg⟩ := Prod.mk.inj eq
  have ed : d1 = d := ed
  have eg : put s3 a0 = g := eg
  subst ed eg
  exact ⟨F3, p, v1, v2, v3, get s3, a1, a2, a3, d1, a0, rfl, k3.preAt j0 (hi s3), r1.up ((e2).trans e3) x1, r2.up (e3) x2, x3, qm, fun v F9 H9 k9 r9 => hQ v F9 H9 (g3.trans k9.fz) (by have z := k3.callAt j0 (hi s3) k9; rw [hz] at z; exact z) r9⟩
theorem sf_Gcall3 {α1 α2 α3 ρ : Type} {r1 : Rp α1} {r2 : Rp α2} {r3 : Rp α3} {rr : Rp ρ} {E : XK} {t1 t2 t3 : TE} {cell : A → Cp} {p : Addr} {i0 j0 : Nat} {m : A → α1 → α2 → α3 → Option (List ρ × A)} {m1 : Option (α1 × γ)} {m2 : γ → Option (α2 × γ)} {m3 : γ → Option (α3 × γ)} (hv : σ[i0]? = some (some (.ref p))) (hi : ∀ s, (cs s)[j0]? = some (p, cell (get s))) (hz : ∀ s a, (cs s).set j0 (p, cell a) = cs (put s a)) (h1 : SM r1 t1 σ F (cs s) (m1) cs) (h2 : ∀ s, SM r2 t2 σ F (cs s) (m2 s) cs) (h3 : ∀ s, SM r3 t3 σ F (cs s) (m3 s) cs) : SF rr (tCall (MFsp3 cell r1 r2 r3 rr m) [] E (tCons (tVar i0) (tCons t1 (tCons t2 (tCons t3 tNil))))) σ F (cs s) (s3 (fun a1 a2 a3 s => (m (get s) a1 a2 a3).map fun r => (r.1, put s r.2)) m1 m2 m3) cs := fun d g q c F0 H0 f0 k0 Q hQ => by
  refine ⟨_, hv, ?_⟩
  unfold s3 at q
  obtain ⟨a1, s1, q1, q⟩ := sC_some q
  obtain ⟨a2, s2, q2, q⟩ := sC_some q
  obtain ⟨a3, s3, q3, q⟩ := sC_some q
  refine (h1) a1 s1 q1 c F0 H0 f0 k0 _ fun v1 F1 H1 e1 k1 x1 => ?_
  have f1 := f0.trans e1
  have g1 := e1
  refine (h2 s1) a2 s2 q2 c F1 H1 f1 k1 _ fun v2 F2 H2 e2 k2 x2 => ?_
  have f2 := f1.trans e2
  have g2 := g1.trans e2
  refine (h3 s2) a3 s3 q3 c F2 H2 f2 k2 _ fun v3 F3 H3 e3 k3 x3 => ?_
  have f3 := f2.trans e3
  have g3 := g2.trans e3
  obtain ⟨⟨d1, a0⟩, qm, eq⟩ := mapP_some q
  obtain ⟨ed, eg⟩ := Prod.mk.inj eq
  have ed : d1 = d := ed
  have eg : put s3 a0 = g := eg
  subst ed eg
  exact ⟨F3, p, v1, v2, v3, get s3, a1, a2, a3, d1, a0, rfl, k3.preAt j0 (hi s3), r1.up ((e2).trans e3) x1, r2.up (e3) x2, x3, qm, fun l F9 H9 k9 => hQ l F9 H9 (g3.trans k9.fz) (by have z := k3.callAtN j0 (hi s3) k9; rw [hz] at z; exact z) (k3.dom l (k9.newOf))⟩
theorem sm_Gcall4 {α1 α2 α3 α4 ρ : Type} {r1 : Rp α1} {r2 : Rp α2} {r3 : Rp α3} {r4 : Rp α4} {rr : Rp ρ} {E : XK} {t1 t2 t3 t4 : TE} {cell : A → Cp} {p : Addr} {i0 j0 : Nat} {m : A → α1 → α2 → α3 → α4 → Option (ρ × A)} {m1 : Option (α1 × γ)} {m2 : γ → Option (α2 × γ)} {m3 : γ → Option (α3 × γ)} {m4 : γ → Option (α4 × γ)} (hv : σ[i0]? = some (some (.ref p))) (hi : ∀ s, (cs s)[j0]? = some (p, cell (get s))) (hz : ∀ s a, (cs s).set j0 (p, cell a) = cs (put s a)) (h1 : SM r1 t1 σ F (cs s) (m1) cs) (h2 : ∀ s, SM r2 t2 σ F (cs s) (m2 s) cs) (h3 : ∀ s, SM r3 t3 σ F (cs s) (m3 s) cs) (h4 : ∀ s, SM r4 t4 σ F (cs s) (m4 s) cs) : SM rr (tCall (MPsp4 cell r1 r2 r3 r4 rr m) [] E (tCons (tVar i0) (tCons t1 (tCons t2 (tCons t3 (tCons t4 tNil)))))) σ F (cs s) (s4 (fun a1 a2 a3 a4 s => (m (get s) a1 a2 a3 a4).map fun r => (r.1, put s r.2)) m1 m2 m3 m4) cs := fun d g q c F0 H0 f0 k0 Q hQ => by
  refine ⟨_, hv, ?_⟩
  unfold s4 at q
  obtain ⟨a1, s1, q1, q⟩ := sC_some q
  obtain ⟨a2, s2, q2, q⟩ := sC_some q
  obtain ⟨a3, s3, q3, q⟩ := sC_some q
  obtain ⟨a4, s4, q4, q⟩ := sC_some q
  refine (h1) a1 s1 q1 c F0 H0 f0 k0 _ fun v1 F1 H1 e1 k1 x1 => ?_
  have f1 := f0.trans e1
  have g1 := e1
  refine (h2 s1) a2 s2 q2 c F1 H1 f1 k1 _ fun v2 F2 H2 e2 k2 x2 => ?_
  have f2 := f1.trans e2
  have g2 := g1.trans e2
  refine (h3 s2) a3 s3 q3 c F2 H2 f2 k2 _ fun v3 F3 H3 e3 k3 x3 => ?_
  have f3 := f2.trans e3
  have g3 := g2.trans e3
  refine (h4 s3) a4 s4 q4 c F3 H3 f3 k3 _ fun v4 F4 H4 e4 k4 x4 => ?_
  have f4 := f3.trans e4
  have g4 := g3.trans e4
  obtain ⟨⟨d1, a0⟩, qm, eq⟩ := mapP_some q
  obtain ⟨ed, eg⟩ := Prod.mk.inj eq
  have ed : d1 = d := ed
  have eg : put s4 a0 = g := eg
  subst ed eg
  exact ⟨F4, p, v1, v2, v3, v4, get s4, a1, a2, a3, a4, d1, a0, rfl, k4.preAt j0 (hi s4), r1.up (((e2).trans e3).trans e4) x1, r2.up ((e3).trans e4) x2, r3.up (e4) x3, x4, qm, fun v F9 H9 k9 r9 => hQ v F9 H9 (g4.trans k9.fz) (by have z := k4.callAt j0 (hi s4) k9; rw [hz] at z; exact z) r9⟩
theorem sf_Gcall4 {α1 α2 α3 α4 ρ : Type} {r1 : Rp α1} {r2 : Rp α2} {r3 : Rp α3} {r4 : Rp α4} {rr : Rp ρ} {E : XK} {t1 t2 t3 t4 : TE} {cell : A → Cp} {p : Addr} {i0 j0 : Nat} {m : A → α1 → α2 → α3 → α4 → Option (List ρ × A)} {m1 : Option (α1 × γ)} {m2 : γ → Option (α2 × γ)} {m3 : γ → Option (α3 × γ)} {m4 : γ → Option (α4 × γ)} (hv : σ[i0]? = some (some (.ref p))) (hi : ∀ s, (cs s)[j0]? = some (p, cell (get s))) (hz : ∀ s a, (cs s).set j0 (p, cell a) = cs (put s a)) (h1 : SM r1 t1 σ F (cs s) (m1) cs) (h2 : ∀ s, SM r2 t2 σ F (cs s) (m2 s) cs) (h3 : ∀ s, SM r3 t3 σ F (cs s) (m3 s) cs) (h4 : ∀ s, SM r4 t4 σ F (cs s) (m4 s) cs) : SF rr (tCall (MFsp4 cell r1 r2 r3 r4 rr m) [] E (tCons (tVar i0) (tCons t1 (tCons t2 (tCons t3 (tCons t4 tNil)))))) σ F (cs s) (s4 (fun a1 a2 a3 a4 s => (m (get s) a1 a2 a3 a4).map fun r => (r.1, put s r.2)) m1 m2 m3 m4) cs := fun d g q c F0 H0 f0 k0 Q hQ => by
  refine ⟨_, hv, ?_⟩
  unfold s4 at q
  obtain ⟨a1, s1, q1, q⟩ := sC_some q
  obtain ⟨a2, s2, q2, q⟩ := sC_some q
  obtain ⟨a3, s3, q3, q⟩ := sC_some q
  obtain ⟨a4, s4, q4, q⟩ := sC_some q
  refine (h1) a1 s1 q1 c F0 H0 f0 k0 _ fun v1 F1 H1 e1 k1 x1 => ?_
  have f1 := f0.trans e1
  have g1 := e1
  refine (h2 s1) a2 s2 q2 c F1 H1 f1 k1 _ fun v2 F2 H2 e2 k2 x2 => ?_
  have f2 := f1.trans e2
  have g2 := g1.trans e2
  refine (h3 s2) a3 s3 q3 c F2 H2 f2 k2 _ fun v3 F3 H3 e3 k3 x3 => ?_
  have f3 := f2.trans e3
  have g3 := g2.trans e3
  refine (h4 s3) a4 s4 q4 c F3 H3 f3 k3 _ fun v4 F4 H4 e4 k4 x4 => ?_
  have f4 := f3.trans e4
  have g4 := g3.trans e4
  obtain ⟨⟨d1, a0⟩, qm, eq⟩ := mapP_some q
  obtain ⟨ed, eg⟩ := Prod.mk.inj eq
  have ed : d1 = d := ed
  have eg : put s4 a0 = g := eg
  subst ed eg
  exact ⟨F4, p, v1, v2, v3, v4, get s4, a1, a2, a3, a4, d1, a0, rfl, k4.preAt j0 (hi s4), r1.up (((e2).trans e3).trans e4) x1, r2.up ((e3).trans e4) x2, r3.up (e4) x3, x4, qm, fun l F9 H9 k9 => hQ l F9 H9 (g4.trans k9.fz) (by have z := k4.callAtN j0 (hi s4) k9; rw [hz] at z; exact z) (k4.dom l (k9.newOf))⟩
theorem sm_Gcall5 {α1 α2 α3 α4 α5 ρ : Type} {r1 : Rp α1} {r2 : Rp α2} {r3 : Rp α3} {r4 : Rp α4} {r5 : Rp α5} {rr : Rp ρ} {E : XK} {t1 t2 t3 t4 t5 : TE} {cell : A → Cp} {p : Addr} {i0 j0 : Nat} {m : A → α1 → α2 → α3 → α4 → α5 → Option (ρ × A)} {m1 : Option (α1 × γ)} {m2 : γ → Option (α2 × γ)} {m3 : γ → Option (α3 × γ)} {m4 : γ → Option (α4 × γ)} {m5 : γ → Option (α5 × γ)} (hv : σ[i0]? = some (some (.ref p))) (hi : ∀ s, (cs s)[j0]? = some (p, cell (get s))) (hz : ∀ s a, (cs s).set j0 (p, cell a) = cs (put s a)) (h1 : SM r1 t1 σ F (cs s) (m1) cs) (h2 : ∀ s, SM r2 t2 σ F (cs s) (m2 s) cs) (h3 : ∀ s, SM r3 t3 σ F (cs s) (m3 s) cs) (h4 : ∀ s, SM r4 t4 σ F (cs s) (m4 s) cs) (h5 : ∀ s, SM r5 t5 σ F (cs s) (m5 s) cs) : SM rr (tCall (MPsp5 cell r1 r2 r3 r4 r5 rr m) [] E (tCons (tVar i0) (tCons t1 (tCons t2 (tCons t3 (tCons t4 (tCons t5 tNil))))))) σ F (cs s) (s5 (fun a1 a2 a3 a4 a5 s => (m (get s) a1 a2 a3 a4 a5).map fun r => (r.1, put s r.2)) m1 m2 m3 m4 m5) cs := fun d g q c F0 H0 f0 k0 Q hQ => by
  refine ⟨_, hv, ?_⟩
  unfold s5 at q
  obtain ⟨a1, s1, q1, q⟩ := sC_some q
  obtain ⟨a2, s2, q2, q⟩ := sC_some q
  obtain ⟨a3, s3, q3, q⟩ := sC_some q
  obtain ⟨a4, s4, q4, q⟩ := sC_some q
  obtain ⟨a5, s5, q5, q⟩ := sC_some q
  refine (h1) a1 s1 q1 c F0 H0 f0 k0 _ fun v1 F1 H1 e1 k1 x1 => ?_
  have f1 := f0.trans e1
  have g1 := e1
  refine (h2 s1) a2 s2 q2 c F1 H1 f1 k1 _ fun v2 F2 H2 e2 k2 x2 => ?_
  have f2 := f1.trans e2
  have g2 := g1.trans e2
  refine (h3 s2) a3 s3 q3 c F2 H2 f2 k2 _ fun v3 F3 H3 e3 k3 x3 => ?_
  have f3 := f2.trans e3
  have g3 := g2.trans e3
  refine (h4 s3) a4 s4 q4 c F3 H3 f3 k3 _ fun v4 F4 H4 e4 k4 x4 => ?_
  have f4 := f3.trans e4
  have g4 := g3.trans e4
  refine (h5 s4) a5 s5 q5 c F4 H4 f4 k4 _ fun v5 F5 H5 e5 k5 x5 => ?_
  have f5 := f4.trans e5
  have g5 := g4.trans e5
  obtain ⟨⟨d1, a0⟩, qm, eq⟩ := mapP_some q
  obtain ⟨ed, eg⟩ := Prod.mk.inj eq
  have ed : d1 = d := ed
  have eg : put s5 a0 = g := eg
  subst ed eg
  exact ⟨F5, p, v1, v2, v3, v4, v5, get s5, a1, a2, a3, a4, a5, d1, a0, rfl, k5.preAt j0 (hi s5), r1.up ((((e2).trans e3).trans e4).trans e5) x1, r2.up (((e3).trans e4).trans e5) x2, r3.up ((e4).trans e5) x3, r4.up (e5) x4, x5, qm, fun v F9 H9 k9 r9 => hQ v F9 H9 (g5.trans k9.fz) (by have z := k5.callAt j0 (hi s5) k9; rw [hz] at z; exact z) r9⟩
theorem sf_Gcall5 {α1 α2 α3 α4 α5 ρ : Type} {r1 : Rp α1} {r2 : Rp α2} {r3 : Rp α3} {r4 : Rp α4} {r5 : Rp α5} {rr : Rp ρ} {E : XK} {t1 t2 t3 t4 t5 : TE} {cell : A → Cp} {p : Addr} {i0 j0 : Nat} {m : A → α1 → α2 → α3 → α4 → α5 → Option (List ρ × A)} {m1 : Option (α1 × γ)} {m2 : γ → Option (α2 × γ)} {m3 : γ → Option (α3 × γ)} {m4 : γ → Option (α4 × γ)} {m5 : γ → Option (α5 × γ)} (hv : σ[i0]? = some (some (.ref p))) (hi : ∀ s, (cs s)[j0]? = some (p, cell (get s))) (hz : ∀ s a, (cs s).set j0 (p, cell a) = cs (put s a)) (h1 : SM r1 t1 σ F (cs s) (m1) cs) (h2 : ∀ s, SM r2 t2 σ F (cs s) (m2 s) cs) (h3 : ∀ s, SM r3 t3 σ F (cs s) (m3 s) cs) (h4 : ∀ s, SM r4 t4 σ F (cs s) (m4 s) cs) (h5 : ∀ s, SM r5 t5 σ F (cs s) (m5 s) cs) : SF rr (tCall (MFsp5 cell r1 r2 r3 r4 r5 rr m) [] E (tCons (tVar i0) (tCons t1 (tCons t2 (tCons t3 (tCons t4 (tCons t5 tNil))))))) σ F (cs s) (s5 (fun a1 a2 a3 a4 a5 s => (m (get s) a1 a2 a3 a4 a5).map fun r => (r.1, put s r.2)) m1 m2 m3 m4 m5) cs := fun d g q c F0 H0 f0 k0 Q hQ => by
  refine ⟨_, hv, ?_⟩
  unfold s5 at q
  obtain ⟨a1, s1, q1, q⟩ := sC_some q
  obtain ⟨a2, s2, q2, q⟩ := sC_some q
  obtain ⟨a3, s3, q3, q⟩ := sC_some q
  obtain ⟨a4, s4, q4, q⟩ := sC_some q
  obtain ⟨a5, s5, q5, q⟩ := sC_some q
  refine (h1) a1 s1 q1 c F0 H0 f0 k0 _ fun v1 F1 H1 e1 k1 x1 => ?_
  have f1 := f0.trans e1
  have g1 := e1
  refine (h2 s1) a2 s2 q2 c F1 H1 f1 k1 _ fun v2 F2 H2 e2 k2 x2 => ?_
  have f2 := f1.trans e2
  have g2 := g1.trans e2
  refine (h3 s2) a3 s3 q3 c F2 H2 f2 k2 _ fun v3 F3 H3 e3 k3 x3 => ?_
  have f3 := f2.trans e3
  have g3 := g2.trans e3
  refine (h4 s3) a4 s4 q4 c F3 H3 f3 k3 _ fun v4 F4 H4 e4 k4 x4 => ?_
  have f4 := f3.trans e4
  have g4 := g3.trans e4
  refine (h5 s4) a5 s5 q5 c F4 H4 f4 k4 _ fun v5 F5 H5 e5 k5 x5 => ?_
  have f5 := f4.trans e5
  have g5 := g4.trans e5
  obtain ⟨⟨d1, a0⟩, qm, eq⟩ := mapP_some q
  obtain ⟨ed, eg⟩ := Prod.mk.inj eq
  have ed : d1 = d := ed
  have eg : put s5 a0 = g := eg
  subst ed eg
  exact ⟨F5, p, v1, v2, v3, v4, v5, get s5, a1, a2, a3, a4, a5, d1, a0, rfl, k5.preAt j0 (hi s5), r1.up ((((e2).trans e3).trans e4).trans e5) x1, r2.up (((e3).trans e4).trans e5) x2, r3.up ((e4).trans e5) x3, r4.up (e5) x4, x5, qm, fun l F9 H9 k9 => hQ l F9 H9 (g5.trans k9.fz) (by have z := k5.callAtN j0 (hi s5) k9; rw [hz] at z; exact z) (k5.dom l (k9.newOf))⟩
end
/-! ### xs.pop(i), xs.pop() -/
section
variable {β γ : Type} {rb : Rp β} {σ : L2.St} {F : Hp} {cs : γ → Cs} {s : γ} {get : γ → List β} {put : γ → List β → γ} {K : PySem.W.Frag} {te : TE}
def popG {α : Type} (l : List α) (i : Int) : Option (α × List α) := if 0 ≤ i ∧ i < 2 ^ 62 then (l[i.toNat]?).map fun x => (x, l.eraseIdx i.toNat) else none
def popL {α : Type} (l : List α) : Option (α × List α) := (l[l.length - 1]?).map fun x => (x, l.dropLast)
theorem Rs.erase : ∀ {F : Hp} {vs : List V} {ds : List β} (k : Nat), Rs rb F vs ds → Rs rb F (vs.eraseIdx k) (ds.eraseIdx k)
  | _, _, _, _, .nil => by simp; exact .nil
  | _, _, _, 0, .cons h t => t
  | _, _, _, k + 1, .cons h t => .cons h (Rs.erase k t)
theorem Rs.init : ∀ {F : Hp} {vs : List V} {ds : List β}, Rs rb F vs ds → Rs rb F vs.dropLast ds.dropLast
  | _, _, _, .nil => .nil
  | _, _, _, .cons h .nil => .nil
  | _, _, _, .cons h (.cons h2 t) => .cons h (Rs.init (.cons h2 t))
theorem Rs.at_ : ∀ {F : Hp} {vs : List V} {ds : List β} {k : Nat} {d : β}, Rs rb F vs ds → ds[k]? = some d → ∃ v, vs[k]? = some v ∧ rb.r F v d
  | _, _, _, _, _, .nil, h => by simp at h
  | _, _, _, 0, _, .cons r t, h => by simp at h; subst h; exact ⟨_, rfl, r⟩
  | _, _, _, k + 1, d, .cons r t, h => by
    simp at h
    obtain ⟨v, h1, h2⟩ := Rs.at_ t h
    exact ⟨v, by simpa using h1, h2⟩
theorem sm_popAt {p : Addr} {i0 j0 : Nat} {m : Option (Int × γ)} (hv : σ[i0]? = some (some (.ref p))) (hi : ∀ s, (cs s)[j0]? = some (p, cLst rb (get s))) (hz : ∀ s a, (cs s).set j0 (p, cLst rb a) = cs (put s a)) (h : SM rInt te σ F (cs s) m cs) :
    SM rb (tBM K "list" rPopAt (tVar i0) (tCons te tNil)) σ F (cs s) (s1 (fun i s => (popG (get s) i).map fun r => (r.1, put s r.2)) m) cs := fun d g q c F0 H0 f0 k0 Q hQ => by
  refine ⟨_, hv, ?_, ?_⟩
  · obtain ⟨_, _, o, h3, vs, rfl, h4⟩ := k0.at_ j0 (hi s)
    exact .inl ⟨rfl, _, SqL.of h3⟩
  · unfold s1 at q
    obtain ⟨i, s1, q1, q⟩ := sC_some q
    refine h i s1 q1 c F0 H0 f0 k0 _ fun w F1 H1 e1 k1 r1 => ?_
    cases r1
    obtain ⟨⟨d1, a0⟩, qm, eq⟩ := Option.map_eq_some_iff.mp q
    obtain ⟨ed, eg⟩ := Prod.mk.inj eq
    have ed : d1 = d := ed
    have eg : put s1 a0 = g := eg
    subst ed eg
    unfold popG at qm
    split at qm
    case isFalse => cases qm
    rename_i hb
    obtain ⟨x, hx, eq2⟩ := Option.map_eq_some_iff.mp qm
    cases eq2
    obtain ⟨_, _, o, h3, vs, rfl, h4⟩ := k1.at_ j0 (hi s1)
    obtain ⟨v, hv1, hv2⟩ := h4.at_ hx
    have hl : i.toNat < vs.length := (List.getElem?_eq_some_iff.mp hv1).1
    refine ⟨p, vs, i, i.toNat, v, rfl, rfl, h3, by omega, by omega, ?_, hv1, hQ v F1 _ e1 ?_ hv2⟩
    · exact seqIndex_of hb.1 (by omega)
    · have z := k1.set j0 (hi s1) (x' := cLst rb ((get s1).eraseIdx i.toNat)) (o := .lst (vs.eraseIdx i.toNat)) ⟨_, rfl, h4.erase _⟩
      rw [hz] at z
      exact z
theorem sm_popL {p : Addr} {i0 j0 : Nat} (hv : σ[i0]? = some (some (.ref p))) (hi : ∀ s, (cs s)[j0]? = some (p, cLst rb (get s))) (hz : ∀ s a, (cs s).set j0 (p, cLst rb a) = cs (put s a)) :
    SM rb (tBM0 K "list" rPop (tVar i0)) σ F (cs s) ((popL (get s)).map fun r => (r.1, put s r.2)) cs := fun d g q c F0 H0 f0 k0 Q hQ => by
  refine ⟨_, hv, ?_, ?_⟩
  · obtain ⟨_, _, o, h3, vs, rfl, h4⟩ := k0.at_ j0 (hi s)
    exact .inl ⟨rfl, _, SqL.of h3⟩
  · obtain ⟨⟨d1, a0⟩, qm, eq⟩ := Option.map_eq_some_iff.mp q
    obtain ⟨ed, eg⟩ := Prod.mk.inj eq
    have ed : d1 = d := ed
    have eg : put s a0 = g := eg
    subst ed eg
    obtain ⟨x, hx, eq2⟩ := Option.map_eq_some_iff.mp qm
    cases eq2
    obtain ⟨_, _, o, h3, vs, rfl, h4⟩ := k0.at_ j0 (hi s)
    obtain ⟨v, hv1, hv2⟩ := h4.at_ hx
    refine ⟨p, vs, v, rfl, rfl, h3, by rw [h4.length]; exact hv1, hQ v F0 _ (Ex.refl _) ?_ hv2⟩
    have z := k0.set j0 (hi s) (x' := cLst rb (get s).dropLast) (o := .lst vs.dropLast) ⟨_, rfl, h4.init⟩
    rw [hz] at z
    exact z
end
/-! ### a, b = [..], [..]; a = b = e -/
section
variable {α β : Type} {ra : Rp α} {rb : Rp β} {σ : L2.St} {F H : Hp} {cs : Cs} {te ta tb : TE} {tz : TS} {c : Act} {D : Ends}
theorem EF.fr {ex : Cs} {m : Option (List α)} (h : EF ra te σ F cs m) : EF ra te σ F (cs ++ ex) m := fun d q c F1 H e k Q hQ => by
  have kk : Cov c F1 cs H := by
    have z := k.keepN cs.length
    rw [List.take_left] at z
    exact z
  refine h d q _ F1 H e kk.base Q fun p F2 H2 e2 k2 n2 => hQ p F2 H2 e2 ?_ (k.dom p n2)
  have z := k.back k2 (Cov.old_ps k2)
  refine z.perm ?_
  rw [List.append_assoc, List.append_assoc]
  exact List.Perm.append_left cs List.perm_append_comm
theorem a_parF {i j : Nat} {d : List α} {e : List β} {m : Option (List α)} {m2 : Option (List β)} (h : EF ra ta σ F cs m) (h2 : EF rb tb σ F cs m2) (hm : m = some d) (hm2 : m2 = some e) (k : Cov c F cs H)
    (n : ∀ p q F2 H2, Ex F F2 → Cov c F2 (cs ++ [(p, cLst ra d), (q, cLst rb e)]) H2 → c.H0 p = none → c.H0 q = none → D.nx ((σ.set i (some (.ref p))).set j (some (.ref q))) H2) : tPar i j (tCons ta (tCons tb tNil)) D σ H :=
  h d hm c F H (Evl.Ex.refl _) k _ fun v F2 H2 e2 k2 n2 => h2.fr e hm2 c F2 H2 e2 k2 _ fun w F3 H3 e3 k3 n3 => ⟨.ref v, .ref w, rfl, n v w F3 H3 (e2.trans e3) (by rw [List.append_assoc] at k3; exact k3) n2 n3⟩
theorem q_parF {i j : Nat} {d : List α} {e : List β} {m : Option (List α)} {m2 : Option (List β)} (h : EF ra ta σ F cs m) (h2 : EF rb tb σ F cs m2) (hm : m = some d) (hm2 : m2 = some e) (k : Cov c F cs H)
    (n : ∀ p q F2 H2, Ex F F2 → Cov c F2 (cs ++ [(p, cLst ra d), (q, cLst rb e)]) H2 → c.H0 p = none → c.H0 q = none → tz D ((σ.set i (some (.ref p))).set j (some (.ref q))) H2) : tSeq (tPar i j (tCons ta (tCons tb tNil))) tz D σ H := a_parF (D := { D with nx := tz D }) h h2 hm hm2 k n
theorem a_asg2 {i j : Nat} {d : α} {m : Option α} (h : EM ra te σ F cs m) (hm : m = some d) (k : Cov c F cs H) (n : ∀ v w F2 H2, Ex F F2 → Cov c F2 cs H2 → ra.r F2 v d → ra.r F2 w d → D.nx ((σ.set i (some v)).set j (some w)) H2) : tAsg2 te (gName i) (gName j) D σ H :=
  h d hm c F H (Evl.Ex.refl _) k _ fun v F2 H2 e2 k2 r2 => n v v F2 H2 e2 k2 r2 r2
theorem q_asg2 {i j : Nat} {d : α} {m : Option α} (h : EM ra te σ F cs m) (hm : m = some d) (k : Cov c F cs H) (n : ∀ v w F2 H2, Ex F F2 → Cov c F2 cs H2 → ra.r F2 v d → ra.r F2 w d → tz D ((σ.set i (some v)).set j (some w)) H2) : tSeq (tAsg2 te (gName i) (gName j)) tz D σ H := a_asg2 (D := { D with nx := tz D }) h hm k n
end
end Mw

set_option maxHeartbeats 2000000
/-! M1: a module's tuple of ints; a def that returns a tuple with a new list in it. -/
namespace Mw
open PySem PySem.Spec PyProof.Rows L2
open Evl (Ex)
section
variable (K : PySem.W.Frag)
/-- a tuple that is only read (one of the module's) -/
def rTupW {α : Type} (ra : Rp α) : Rp (List α) := ⟨fun H v ds => ∃ a vs, v = .ref a ∧ SqT K H a vs ∧ Rs ra H vs ds, fun e ⟨a, vs, h1, h2, h3⟩ => ⟨a, vs, h1, Evl.ex_t e h2, Rs.up e h3⟩⟩
/-- a constant of the module: a tuple of ints -/
def TupC (a : Addr) (is : List Int) : Prop := ∃ (o : Obj) (its : Array Value) (n : Nat), K.lookup a = some o ∧ o.cls = .type "tuple" ∧ o.data = .seq its n ∧ its.size ≤ sizeLine ∧ Vals (is.map V.int) its.toList
end
section
variable {α β γ δ ρ τ : Type} {ra : Rp α} {rb : Rp β} {rr : Rp ρ} {rt : Rp τ} {σ : L2.St} {F H : Hp} {cs : Cs} {K : PySem.W.Frag} {te t1 t2 : TE} {tz : TS} {c : Act} {D : Ends}
theorem rs_ints : ∀ {F : Hp} (is : List Int), Rs rInt F (is.map V.int) is
  | _, [] => .nil
  | _, _ :: is => .cons rfl (rs_ints is)
theorem em_gT {a : Addr} {is : List Int} (h : TupC K a is) : EM (rTupW K rInt) (tC (.ref a)) σ F cs (some is) := em_c fun H => ⟨a, is.map V.int, rfl, .inr h, rs_ints is⟩
theorem ei_tupW {m : Option (List α)} (h : EM (rTupW K ra) te σ F cs m) : EI ra (iTup K te) σ F cs m := fun ds q c F1 H e k R hR => h ds q c F1 H e k _ fun v F2 H2 e2 k2 r2 => by
  obtain ⟨a, vs, rfl, h1, h2⟩ := r2
  exact ⟨a, rfl, ⟨vs, Evl.ex_t k2.ex h1⟩, hR _ F2 H2 e2 k2 (goes_tup h1 h2)⟩
/-! ### return (xs, e), xs a new list -/
def EFT (rr : Rp ρ) (rt : Rp τ) (te : TE) (σ : L2.St) (F : Hp) (cs : Cs) (m : Option (List ρ × τ)) : Prop := ∀ d, m = some d → ∀ c F1 H, Ex F F1 → Cov c F1 cs H → ∀ Q : VK, (∀ t p w F2 H2, Ex F1 F2 → Cov c F2 (cs ++ [(p, cLst rr d.1)]) H2 → c.H0 p = none → F2 t = some (.tup [.ref p, w]) → rt.r F2 w d.2 → Q (.ref t) H2) → te σ H Q
def FT2 {α1 α2 : Type} (r1 : Rp α1) (r2 : Rp α2) (rr : Rp ρ) (rt : Rp τ) (m : α1 → α2 → Option (List ρ × τ)) : Sp := fun vs H Q _ => ∃ (F : Hp) (v1 v2 : V) (a1 : α1) (a2 : α2) (d : List ρ × τ), vs = [v1, v2] ∧ Ex F H ∧ r1.r F v1 a1 ∧ r2.r F v2 a2 ∧ m a1 a2 = some d ∧ ∀ t p w F2 H2, Cov ⟨H, F, []⟩ F2 [(p, cLst rr d.1)] H2 → F2 t = some (.tup [.ref p, w]) → rt.r F2 w d.2 → Q (.ref t) H2
theorem FT2_len {α1 α2 : Type} {r1 : Rp α1} {r2 : Rp α2} {m : α1 → α2 → Option (List ρ × τ)} {vs : List V} {Q : VK} {E : XK} (h : FT2 r1 r2 rr rt m vs H Q E) : vs.length = 2 := by
  obtain ⟨_, _, _, _, _, _, rfl, _⟩ := h
  rfl
theorem em_FTcall2 {α1 α2 : Type} {r1 : Rp α1} {r2 : Rp α2} {E : XK} {m : α1 → α2 → Option (List ρ × τ)} {m1 : Option α1} {m2 : Option α2} (h1 : EM r1 t1 σ F cs m1) (h2 : EM r2 t2 σ F cs m2) : EFT rr rt (tCall (FT2 r1 r2 rr rt m) [] E (tCons t1 (tCons t2 tNil))) σ F cs (o2 m m1 m2) := fun d q c F0 H0 e0 k0 Q hQ => by
  obtain ⟨a1, a2, q1, q2, q⟩ := o2_some q
  refine h1 a1 q1 c F0 H0 e0 k0 _ fun v1 F1 H1 e1 k1 x1 => h2 a2 q2 c F1 H1 (e0.trans e1) k1 _ fun v2 F2 H2 e2 k2 x2 => ?_
  exact ⟨F2, v1, v2, a1, a2, d, rfl, k2.ex, r1.up e2 x1, x2, q, fun t p w F9 H9 k9 y1 y2 => hQ t p w F9 H9 ((e1.trans e2).trans k9.fz) (k2.call0n k9) (k2.dom p (Or.resolve_left (k9.old_new (p, cLst rr d.1) List.mem_cons_self) List.not_mem_nil)) y1 y2⟩
theorem a_retFT {i j : Nat} {p : Addr} {ds : List ρ} {x : τ} {m : Option τ} (hx : σ[i]? = some (some (.ref p))) (hj : cs[j]? = some (p, cLst rr ds)) (h : EM rt te σ F cs m) (hm : m = some x) (k : Cov c F cs H)
    (n : ∀ t p w F2 H2, Cov c F2 [(p, cLst rr ds)] H2 → F2 t = some (.tup [.ref p, w]) → rt.r F2 w x → D.rt (.ref t) H2) : tRet (tTup (tCons (tVar i) (tCons te tNil))) D σ H := by
  refine ⟨_, hx, h x hm c F H (Evl.Ex.refl _) k _ fun w F2 H2 e2 k2 r2 => ⟨sz_ok (by simp), fun t ht => ?_⟩⟩
  have f := k2.fnone ht
  exact n t p w _ _ ((k2.lay ht).only j hj) upd_same (rt.up (Ex.new f) r2)
theorem a_unpFT {i j : Nat} {d : List ρ × τ} {m : Option (List ρ × τ)} (h : EFT rr rt te σ F cs m) (hm : m = some d) (k : Cov c F cs H) (n : ∀ p w F2 H2, Ex F F2 → Cov c F2 (cs ++ [(p, cLst rr d.1)]) H2 → c.H0 p = none → rt.r F2 w d.2 → D.nx ((σ.set i (some (.ref p))).set j (some w)) H2) : tAsg te (gTup K 2 (gCons (gName i) (gCons (gName j) gNil))) D σ H :=
  h d hm c F H (Evl.Ex.refl _) k _ fun t p w F2 H2 e2 k2 n2 h1 r2 => ⟨t, [.ref p, w], rfl, ext_ k2.ex h1, rfl, .ref p, [w], rfl, w, [], rfl, rfl, n p w F2 H2 e2 k2 n2 r2⟩
theorem q_unpFT {i j : Nat} {d : List ρ × τ} {m : Option (List ρ × τ)} (h : EFT rr rt te σ F cs m) (hm : m = some d) (k : Cov c F cs H) (n : ∀ p w F2 H2, Ex F F2 → Cov c F2 (cs ++ [(p, cLst rr d.1)]) H2 → c.H0 p = none → rt.r F2 w d.2 → tz D ((σ.set i (some (.ref p))).set j (some w)) H2) : tSeq (tAsg te (gTup K 2 (gCons (gName i) (gCons (gName j) gNil)))) tz D σ H := a_unpFT (D := { D with nx := tz D }) h hm k n
end
end Mw
namespace Hm
open PySem PySem.Spec PyProof.Rows L2 He Mw
def eqInts : List Value → List Int → Bool
  | .int i _ :: r, j :: s => decide (i = j) && eqInts r s
  | [], [] => true
  | _, _ => false
theorem eqInts_ok : ∀ {r : List Value} {s : List Int}, eqInts r s = true → Vals (s.map V.int) r
  | [], [], _ => .nil
  | .int i t :: r, j :: s, h => by
    obtain ⟨h1, h2⟩ := Bool.and_eq_true_iff.mp h
    have e : i = j := of_decide_eq_true h1
    subst e
    exact .cons ⟨t, rfl⟩ (eqInts_ok h2)
/-- the global x is a tuple of these ints -/
def tupB (x : Str) (is : List Int) : Fc := fun K => match K.lookup (ga K x) with
  | some o => (o.cls == .type "tuple") && (match o.data with
    | .seq its _ => decide (its.size ≤ 1000) && eqInts its.toList is
    | _ => false)
  | none => false
theorem tup_ok {K : PySem.W.Frag} {x : Str} {is : List Int} (c : tupB x is K = true) : TupC K (ga K x) is := by
  unfold tupB at c
  split at c
  · rename_i o e
    obtain ⟨c1, c2⟩ := Bool.and_eq_true_iff.mp c
    revert c2
    split
    · rename_i its n ed
      intro c2
      obtain ⟨c3, c4⟩ := Bool.and_eq_true_iff.mp c2
      have := of_decide_eq_true c3
      exact ⟨o, its, n, e, eq_of_beq c1, ed, sz_ok (by omega), eqInts_ok c4⟩
    · intro c2; cases c2
  · cases c
end Hm

set_option maxHeartbeats 2000000
/-! M2: slices with effects; isinstance of what may be None. -/
namespace Mw
open PySem PySem.Spec PyProof.Rows L2
open Evl (Ex)
section
variable {α γ : Type} {ra : Rp α} {σ : L2.St} {F : Hp} {cs : γ → Cs} {s : γ} {K : PySem.W.Frag} {te ta : TE} {tl th : TO}
def SO {γ : Type} (to : TO) (σ : L2.St) (F : Hp) (cs : Cs) (m : Option (Option Int × γ)) (cs' : γ → Cs) : Prop := ∀ d g, m = some (d, g) → ∀ c F1 H, Ex F F1 → Cov c F1 cs H → ∀ Q : Option Int → Hp → Prop, (∀ F2 H2, Ex F1 F2 → Cov c F2 (cs' g) H2 → Q d H2) → to σ H Q
theorem so_none : SO tNoPart σ F (cs s) (some (none, s)) cs := fun d g q c F1 H e k Q hQ => by cases q; exact hQ F1 H (Evl.Ex.refl _) k
theorem so_some {m : Option (Int × γ)} (h : SM rInt te σ F (cs s) m cs) : SO (tPart te) σ F (cs s) (m.map fun r => (some r.1, r.2)) cs := fun d g q c F1 H e k Q hQ => by
  cases m with
  | none => cases q
  | some i =>
    cases q
    exact h i.1 i.2 rfl c F1 H e k _ fun v F2 H2 e2 k2 r2 => ⟨i.1, r2, hQ F2 H2 e2 k2⟩
theorem sf_sliceS {ma : Option (List α × γ)} {m1 m2 : γ → Option (Option Int × γ)} (ha : SM (rLst ra) ta σ F (cs s) ma cs) (h1 : ∀ s, SO tl σ F (cs s) (m1 s) cs) (h2 : ∀ s, SO th σ F (cs s) (m2 s) cs) : SF ra (tSl (rSlL K) ta tl th) σ F (cs s) (s3 (fun l a b s => some (cut l a b, s)) ma m1 m2) cs := fun d g q c F1 H e k Q hQ => by
  unfold s3 at q
  obtain ⟨l, s1, q1, q⟩ := sC_some q
  obtain ⟨a, s2, q2, q⟩ := sC_some q
  obtain ⟨b, u3, q3, q⟩ := sC_some q
  obtain ⟨ed, eg⟩ := Prod.mk.inj (Option.some.inj q)
  subst ed eg
  refine ha l s1 q1 c F1 H e k _ fun x F2 H2 e2 k2 r2 => h1 s1 a s2 q2 c F2 H2 (e.trans e2) k2 _ fun F3 H3 e3 k3 => h2 s2 b u3 q3 c F3 H3 ((e.trans e2).trans e3) k3 _ fun F4 H4 e4 k4 => ?_
  obtain ⟨p, vs, rfl, h1, h2⟩ := (rLst ra).up (e3.trans e4) r2
  refine ⟨p, vs, rfl, .inl (.inl (k4.ex _ _ h1)), fun l hl => ?_⟩
  exact hQ l F4 _ ((e2.trans e3).trans e4) (k4.own hl ⟨_, rfl, h2.cut a b⟩) (k4.dom l hl)
theorem is_optT {n : String} (h : IsT K ra (.type n) fun _ => true) (hn : PySem.W.kitOne K (.type "NoneType") (.type n) = some false) : IsT K (rOpt ra) (.type n) Option.isSome := fun F H v a e r => by
  cases a with
  | none =>
    cases (show v = .non from r)
    exact ⟨_, .base .non, hn⟩
  | some a => exact h F H v a e r.2
theorem is_optF {n : String} (h : IsT K ra (.type n) fun _ => false) (hn : PySem.W.kitOne K (.type "NoneType") (.type n) = some false) : IsT K (rOpt ra) (.type n) fun _ => false := fun F H v a e r => by
  cases a with
  | none =>
    cases (show v = .non from r)
    exact ⟨_, .base .non, hn⟩
  | some a => exact h F H v a e r.2
end
/-! xs.index(y) -/
section
variable {α γ : Type} [DecidableEq α] [Sk α] {ra : Rp α} {σ : L2.St} {F : Hp} {cs : Cs} {K : PySem.W.Frag} {te tl : TE}
def idxDG (l : List α) (a : α) : Option Int := if Sk.ok a = true ∧ Sk.ok l = true then (l.findIdx? fun z => decide (z = a)).map (fun (j : Nat) => (j : Int)) else none
theorem mt_indexDK {X : Cx} (hK : X.K = K) (hu : X.A.units + 65 < cLine) : MtR X "list.index" (rIndexD K) := by
  subst hK
  exact mt_indexD hu
theorem em_indexD {ma : Option α} {ml : Option (List α)} (D : Dq K ra) (hd : D.dep ≤ 63) (hl : EL K ra tl σ F cs ml) (h : EM ra te σ F cs ma) : EM rInt (tBM K "list" (rIndexD K) tl (tCons te tNil)) σ F cs (o2 idxDG ml ma) := fun d q c F1 H e k Q hQ => by
  obtain ⟨b, a, q1, q2, q3⟩ := o2_some q
  refine hl b q1 c F1 H e k _ fun w F2 H2 e2 k2 r2 => ?_
  obtain ⟨p, vs, rfl, h1, h2⟩ := r2.see k2
  refine ⟨.inl ⟨rfl, _, h1⟩, h a q2 c F2 H2 (e.trans e2) k2 _ fun v F3 H3 e3 k3 r3 => ?_⟩
  obtain ⟨p', vs', ep, h3, h4⟩ := (r2.up e3).see k3
  cases ep
  unfold idxDG at q3
  split at q3
  case isFalse => cases q3
  rename_i g
  obtain ⟨j, hj, eq⟩ := Option.map_eq_some_iff.mp q3
  obtain ⟨hlt, hp, hn⟩ := List.findIdx?_eq_some_iff_getElem.mp hj
  refine ⟨p, v, D.enc a, b.map D.enc, j, D.enc (b[j]), rfl, rfl, .lst h3 (dpAll D (Rs.up k3.ex h4)), dp_ex k3.ex D r3, lsD D hd g.2, D.shaped (by omega) g.1, by simp [hlt], ?_, fun m z' hm hz => ?_, hQ _ F3 H3 (e2.trans e3) k3 (by rw [← eq]; rfl)⟩
  · rw [D.inj]
    exact hp
  · have hml : m < b.length := Nat.lt_trans hm hlt
    have e0 : z' = D.enc b[m] := by
      rw [List.getElem?_map, List.getElem?_eq_getElem hml] at hz
      exact (Option.some.inj hz).symm
    rw [e0, D.inj]
    have := hn m hm
    simpa using this
end
end Mw
namespace Mw
open PySem PySem.Spec PyProof.Rows L2
open Evl (Ex)
section
variable {α γ : Type} {ra : Rp α} {σ : L2.St} {F H : Hp} {cs : Cs} {wi : TI} {g : TG} {tb : TS} {D : Ends} {c : Act} {m : Option (List α)} {ds : List α}
/-- for, the cells told by the invariant (their addresses may change) -/
theorem a_forJ {f : α → γ → Option γ} {g0 g1 : γ} (hw : EI ra wi σ F cs m) (hm : m = some ds) (k : Cov c F cs H) (hf : oFold f ds g0 = some g1)
    (n : ∀ F2 H2, Ex F F2 → Cov c F2 cs H2 → ∃ J : Inva γ, J g0 σ F2 H2 ∧ (∀ x σ' F' H', J x σ' F' H' → Ex F2 F' ∧ ∃ cs', Cov c F' cs' H' ∧ ∀ F3 H3, Ex F' F3 → Cov c F3 cs' H3 → J x σ' F3 H3) ∧
      (∀ d v x x' σ' F' H', J x σ' F' H' → ra.r F' v d → f d x = some x' →
        g v σ' H' fun σ2 H4 => tb { D with nx := fun σ' H' => ∃ F', J x' σ' F' H', ct := fun σ' H' => ∃ F', J x' σ' F' H', bk := D.nx } σ2 H4) ∧
      (∀ σ' F' H', J g1 σ' F' H' → D.nx σ' H')) : tFor wi g tb D σ H := by
  refine hw ds hm c F H (Evl.Ex.refl _) k _ fun J0 F2 H2 e2 k2 G => ?_
  obtain ⟨J, j0, stay, turn, fin⟩ := n F2 H2 e2 k2
  refine ⟨fun i m σ H => m = ds.length - i ∧ i ≤ ds.length ∧ ∃ x F', oFold f (ds.drop i) x = some g1 ∧ J x σ F' H, ⟨ds.length, by simp, Nat.zero_le _, g0, F2, hf, j0⟩, ?_⟩
  rintro i m σ H ⟨rfl, hi, x, F', hx, jx⟩
  obtain ⟨e3, cs', k3, mv⟩ := stay _ _ _ _ jx
  by_cases hlt : i < ds.length
  · have hd : ds[i]? = some ds[i] := by simp [hlt]
    obtain ⟨g1', g2⟩ := G.go i _ hd c F' _ H e3 k3
    rw [fold_drop hd] at hx
    obtain ⟨x', h1, h2⟩ := bind_some hx
    refine .inr ⟨g1', fun σ' H' => ∃ F', J x' σ' F' H', fun σ' H' ⟨F'', j'⟩ => ⟨ds.length - (i + 1), by omega, rfl, hlt, x', F'', h2, j'⟩, fun v H' y => ?_⟩
    obtain ⟨F4, e4, c4, r4⟩ := g2 v H' y
    exact turn _ v x x' σ F4 H' (mv F4 H' e4 (c4 c _ k3)) r4 h1
  · have e : i = ds.length := by omega
    subst e
    rw [List.drop_length] at hx
    cases hx
    exact .inl ⟨G.stop c F' _ H e3 k3, fin σ F' H jx⟩
theorem SqL_at {K : PySem.W.Frag} {p : Addr} {cs' : Cs} (k : Cov c F cs' H) (hj : (p, cLst ra ds) ∈ cs') : ∃ vs, H p = some (.lst vs) ∧ Rs ra F vs ds := by
  obtain ⟨_, _, o, h3, vs, rfl, h4⟩ := k.cell _ hj
  exact ⟨vs, h3, h4⟩
/-- for, over a cell that the turns leave as it is -/
theorem a_forC {K : PySem.W.Frag} {i j : Nat} {p : Addr} {f : α → γ → Option γ} {g0 g1 : γ} (hx : σ[i]? = some (some (.ref p))) (hj : cs[j]? = some (p, cLst ra ds)) (k : Cov c F cs H) (hf : oFold f ds g0 = some g1)
    (n : ∃ J : Inva γ, J g0 σ F H ∧ (∀ x σ' F' H', J x σ' F' H' → ∃ cs', Cov c F' cs' H' ∧ (p, cLst ra ds) ∈ cs') ∧
      (∀ d v x x' σ' F' H', J x σ' F' H' → ra.r F' v d → f d x = some x' →
        g v σ' H' fun σ2 H4 => tb { D with nx := fun σ' H' => ∃ F', J x' σ' F' H', ct := fun σ' H' => ∃ F', J x' σ' F' H', bk := D.nx } σ2 H4) ∧
      (∀ σ' F' H', J g1 σ' F' H' → D.nx σ' H')) : tFor (iList K (tVar i)) g tb D σ H := by
  obtain ⟨J, j0, stay, turn, fin⟩ := n
  obtain ⟨vs0, h0, r0⟩ := SqL_at (K := K) k (List.mem_of_getElem? hj)
  refine ⟨_, hx, p, rfl, ⟨vs0, .inl (.inl h0)⟩, ?_⟩
  refine ⟨fun i m σ H => m = ds.length - i ∧ i ≤ ds.length ∧ ∃ x F', oFold f (ds.drop i) x = some g1 ∧ J x σ F' H, ⟨ds.length, by simp, Nat.zero_le _, g0, F, hf, j0⟩, ?_⟩
  rintro i m σ H ⟨rfl, hi, x, F', hx, jx⟩
  obtain ⟨cs', k3, mem⟩ := stay _ _ _ _ jx
  obtain ⟨vs, h1, r1⟩ := SqL_at (K := K) k3 mem
  by_cases hlt : i < ds.length
  · have hd : ds[i]? = some ds[i] := by simp [hlt]
    obtain ⟨v, hv, rv⟩ := r1.at_ hd
    rw [fold_drop hd] at hx
    obtain ⟨x', h3, h2⟩ := bind_some hx
    refine .inr ⟨⟨vs, v, .inl (.inl h1), hv⟩, fun σ' H' => ∃ F', J x' σ' F' H', fun σ' H' ⟨F'', j'⟩ => ⟨ds.length - (i + 1), by omega, rfl, hlt, x', F'', h2, j'⟩, fun w H' y => ?_⟩
    obtain ⟨y1, y2⟩ := y
    subst y1
    have z := y2 vs (.inl (.inl h1))
    rw [hv] at z
    cases z
    exact turn _ v x x' σ F' _ jx rv h3
  · have e : i = ds.length := by omega
    subst e
    rw [List.drop_length] at hx
    cases hx
    exact .inl ⟨⟨vs, .inl (.inl h1), by rw [r1.length]; exact Nat.le_refl _⟩, fin σ F' H jx⟩
end
end Mw


set_option maxHeartbeats 2000000
/-! Du: values of several kinds: data told as such (rDat), one of two kinds (rAlt). -/
namespace Mw
open PySem PySem.Spec PyProof.Rows L2
open Evl (Ex)
mutual
theorem dp_up {K : PySem.W.Frag} {H H' : Hp} (e : Ex H H') : ∀ (d : PyData) (v : V), Dp K H v d → Dp K H' v d
  | .none, _, h => by cases h; exact .non
  | .bool b, _, h => by cases h; exact .bl b
  | .int i, _, h => by cases h; exact .int i
  | .str x, _, h => by cases h; exact .str x
  | .list ds, _, h => by
    cases h with
    | lst hs ha => exact .lst (Evl.ex_l e hs) (dp_upA e ds _ ha)
  | .tuple ds, _, h => by
    cases h with
    | tup hs ha => exact .tup (Evl.ex_t e hs) (dp_upA e ds _ ha)
  | .dict _, _, h => by cases h
theorem dp_upA {K : PySem.W.Frag} {H H' : Hp} (e : Ex H H') : ∀ (ds : List PyData) (vs : List V), DpAll K H vs ds → DpAll K H' vs ds
  | [], _, h => by cases h; exact .nil
  | d :: ds, _, h => by
    cases h with
    | cons h1 h2 => exact .cons (dp_up e d _ h1) (dp_upA e ds _ h2)
end
/-- data of any kind -/
def rDat (K : PySem.W.Frag) : Rp PyData := ⟨fun H v d => Dp K H v d, fun e h => dp_up e _ _ h⟩
/-- one of two kinds -/
def rAlt {α β : Type} (ra : Rp α) (rb : Rp β) : Rp (α ⊕ β) := ⟨fun H v x => match x with
  | .inl a => ra.r H v a
  | .inr b => rb.r H v b, fun {_ _ _ x} e h => match x, h with
  | .inl _, h => ra.up e h
  | .inr _, h => rb.up e h⟩
def eqU (a b : PyData) : Option Bool := if SeqAt.shaped a = true ∧ SeqAt.shaped b = true then some (PyData.eqv a b) else none
def neU (a b : PyData) : Option Bool := if SeqAt.shaped a = true ∧ SeqAt.shaped b = true then some (!PyData.eqv a b) else none
def isNonU : PyData → Bool
  | .none => true
  | _ => false
section
variable {K : PySem.W.Frag} {α β : Type} {ra : Rp α} {rb : Rp β} {te : TE} {σ : L2.St} {F : Hp} {cs : Cs}
theorem to_dat [DecidableEq α] [Sk α] (D : Dq K ra) : ∀ (F : Hp) v x, ra.r F v x → (rDat K).r F v (D.enc x) := fun _ _ _ r => D.dp r
theorem dat_non : ∀ (F : Hp) v (x : Unit), rNon.r F v x → (rDat K).r F v .none := fun F v x r => by cases (show v = .non from r); exact .non
theorem em_datN : EM (rDat K) (tC .non) σ F cs (some PyData.none) := fun d q c F1 H e k Q hQ => by
  cases q
  exact hQ .non F1 H (Evl.Ex.refl _) k .non
theorem dat_all {F : Hp} : ∀ {vs : List V} {ds : List PyData}, Rs (rDat K) F vs ds → DpAll K F vs ds
  | _, _, .nil => .nil
  | _, _, .cons h t => .cons h (dat_all t)
theorem dat_tup : ∀ (F : Hp) v x, (rTup K (rDat K)).r F v x → (rDat K).r F v (.tuple x) := fun F v x ⟨a, vs, h1, h2, h3⟩ => by
  subst h1
  exact .tup (SqT.of h2) (dat_all h3)
theorem dat_lst : ∀ (F : Hp) v x, (rLst (rDat K)).r F v x → (rDat K).r F v (.list x) := fun F v x ⟨a, vs, h1, h2, h3⟩ => by
  subst h1
  exact .lst (SqL.of h2) (dat_all h3)
theorem dat_p2 : ∀ (F : Hp) v (x : PyData × PyData), (rP2 K (rDat K) (rDat K)).r F v x → (rDat K).r F v (.tuple [x.1, x.2]) := fun F v x ⟨a, v1, v2, h1, h2, h3, h4⟩ => by
  subst h1
  exact .tup (SqT.of h2) (.cons h3 (.cons h4 .nil))
def optU {α : Type} (g : α → PyData) : Option α → PyData
  | none => .none
  | some a => g a
theorem dat_opt {g : α → PyData} (h : ∀ (F : Hp) v x, ra.r F v x → (rDat K).r F v (g x)) : ∀ (F : Hp) v x, (rOpt ra).r F v x → (rDat K).r F v (optU g x) := fun F v x r => by
  cases x with
  | none => cases (show v = .non from r); exact .non
  | some a => exact h F v a r.2
theorem dat_pay : ∀ (F : Hp) v x, (rPay K).r F v x → (rDat K).r F v (payD x) := fun F v x r => by
  cases x with
  | int i => exact to_dat dq_int F v i r
  | tup l => exact to_dat (dq_tup dq_int) F v l r
  | str s => exact to_dat dq_str F v s r
  | rows l => exact to_dat (dq_lst (dq_lst dq_int)) F v l r
theorem vo_eqU : VO (rEqD K) (rDat K) (rDat K) rBool eqU := fun c F cs H v w a b d k r1 r2 q Q hQ => by
  unfold eqU at q
  split at q
  · rename_i g
    cases q
    exact ⟨a, b, dp_up k.ex _ _ r1, dp_up k.ex _ _ r2, g.1, g.2, hQ _ F H (Evl.Ex.refl _) k rfl⟩
  · cases q
theorem vo_neU : VO (rNeD K) (rDat K) (rDat K) rBool neU := fun c F cs H v w a b d k r1 r2 q Q hQ => by
  unfold neU at q
  split at q
  · rename_i g
    cases q
    exact ⟨a, b, dp_up k.ex _ _ r1, dp_up k.ex _ _ r2, g.1, g.2, hQ _ F H (Evl.Ex.refl _) k rfl⟩
  · cases q
theorem dat_isN {H : Hp} {v : V} {d : PyData} (h : Dp K H v d) : decide (v = .non) = isNonU d := by
  cases h <;> rfl
theorem em_isNU {m : Option PyData} (h : EM (rDat K) te σ F cs m) : EM rBool (tOp (fun x y H Q => y = .non ∧ Q (.bl (decide (x = .non))) H) te (tC .non)) σ F cs (m.map isNonU) := fun d q c F1 H e k Q hQ => by
  cases m with
  | none => cases q
  | some o =>
    cases q
    refine h o rfl c F1 H e k _ fun v F2 H2 e2 k2 r2 => ⟨rfl, hQ _ F2 H2 e2 k2 ?_⟩
    rw [dat_isN r2] <;> rfl
theorem em_notNU {m : Option PyData} (h : EM (rDat K) te σ F cs m) : EM rBool (tOp (fun x y H Q => y = .non ∧ Q (.bl (!decide (x = .non))) H) te (tC .non)) σ F cs (m.map fun d => !isNonU d) := fun d q c F1 H e k Q hQ => by
  cases m with
  | none => cases q
  | some o =>
    cases q
    refine h o rfl c F1 H e k _ fun v F2 H2 e2 k2 r2 => ⟨rfl, hQ _ F2 H2 e2 k2 ?_⟩
    rw [dat_isN r2] <;> rfl
/-- isinstance of data of any kind, told by the kind -/
def kindU (n b i s l t : Bool) : PyData → Bool
  | .none => n
  | .bool _ => b
  | .int _ => i
  | .str _ => s
  | .list _ => l
  | .tuple _ => t
  | .dict _ => false
theorem ty_sql {H : Hp} {a : Addr} {xs : List V} (h : SqL K H a xs) : TyX K H (.ref a) (.type "list") := by
  rcases h with (h | ⟨o, h⟩) | ⟨o, its, n, h1, h2, _⟩
  · exact .base (.lst h)
  · exact .base (.frz h)
  · exact .kList h1 h2
theorem ty_sqt {H : Hp} {a : Addr} {xs : List V} (h : SqT K H a xs) : TyX K H (.ref a) (.type "tuple") := by
  rcases h with (h | ⟨o, h⟩) | ⟨o, its, n, h1, h2, _⟩
  · exact .base (.tup h)
  · exact .fTuple h
  · exact .kTuple h1 h2
theorem is_dat {u : Value} {n b i s l t : Bool} (hn : PySem.W.kitOne K (.type "NoneType") u = some n) (hb : PySem.W.kitOne K (.type "bool") u = some b) (hi : PySem.W.kitOne K (.type "int") u = some i) (hs : PySem.W.kitOne K (.type "str") u = some s) (hl : PySem.W.kitOne K (.type "list") u = some l) (ht : PySem.W.kitOne K (.type "tuple") u = some t) : IsT K (rDat K) u (kindU n b i s l t) := fun F H v a e r => by
  have r : Dp K F v a := r
  cases r with
  | non => exact ⟨_, .base .non, hn⟩
  | bl _ => exact ⟨_, .base (.bl _), hb⟩
  | int _ => exact ⟨_, .base (.int _), hi⟩
  | str _ => exact ⟨_, .base (.str _), hs⟩
  | lst h1 _ => exact ⟨_, ty_sql (Evl.ex_l e h1), hl⟩
  | tup h1 _ => exact ⟨_, ty_sqt (Evl.ex_t e h1), ht⟩
theorem em_inl {m : Option α} (h : EM ra te σ F cs m) : EM (rAlt ra rb) te σ F cs (m.map Sum.inl) := em_mapR (g := Sum.inl) (fun _ _ _ r => r) h
theorem em_inr {m : Option β} (h : EM rb te σ F cs m) : EM (rAlt ra rb) te σ F cs (m.map Sum.inr) := em_mapR (g := Sum.inr) (fun _ _ _ r => r) h
theorem em_toL {m : Option (α ⊕ β)} (h : EM (rAlt ra rb) te σ F cs m) : EM ra te σ F cs (m.bind Sum.getLeft?) := fun d q c F1 H e k Q hQ => by
  obtain ⟨x, q1, q2⟩ := bind_some q
  cases x with
  | inl a => cases q2; exact h _ q1 c F1 H e k Q fun v F2 H2 e2 k2 r2 => hQ v F2 H2 e2 k2 r2
  | inr b => cases q2
theorem em_toR {m : Option (α ⊕ β)} (h : EM (rAlt ra rb) te σ F cs m) : EM rb te σ F cs (m.bind Sum.getRight?) := fun d q c F1 H e k Q hQ => by
  obtain ⟨x, q1, q2⟩ := bind_some q
  cases x with
  | inr a => cases q2; exact h _ q1 c F1 H e k Q fun v F2 H2 e2 k2 r2 => hQ v F2 H2 e2 k2 r2
  | inl b => cases q2
theorem is_alt {u : Value} {f : α → Bool} {g : β → Bool} (hf : IsT K ra u f) (hg : IsT K rb u g) : IsT K (rAlt ra rb) u (Sum.elim f g) := fun F H v x e r => by
  cases x with
  | inl a => exact hf F H v a e r
  | inr b => exact hg F H v b e r
theorem ex_mapR {L : List PySem.Str} {W : WX} {g : α → β} {m : Option (Except Er α)} (hp : ∀ F v x, ra.r F v x → rb.r F v (g x)) (h : EMX K L W ra te σ F cs m) : EMX K L W rb te σ F cs (m.map fun r => r.map g) := fun d q c F1 H e k Q hQ hE => by
  cases m with
  | none => cases q
  | some y =>
    cases q
    refine h y rfl c F1 H e k Q (fun x ex v F2 H2 e2 k2 r2 => ?_) fun er ee cls dd F2 H2 e2 k2 r2 => ?_
    · subst ex
      exact hQ (g x) rfl v F2 H2 e2 k2 (hp _ _ _ r2)
    · subst ee
      exact hE er rfl cls dd F2 H2 e2 k2 r2
end
end Mw

set_option maxHeartbeats 2000000
/-! Dv: calls that may raise, with effects in their arguments; bits; cells read at an index that is drawn. -/
namespace Mw
open PySem PySem.Spec PyProof.Rows L2
open Evl (Ex)
/-! ### bits -/
instance (a b : Int) : Decidable (CPow a b) := by unfold CPow; infer_instance
def shrG (a b : Int) : Option Int := if 0 ≤ b then some (a / 2 ^ b.toNat) else none
def shlG (a b : Int) : Option Int := if CPow a b then some (a * 2 ^ b.toNat) else none
def andG (a b : Int) : Option Int := some (Builtin.bitAnd a b)
def orG (a b : Int) : Option Int := some (Builtin.bitOr a b)
theorem vo_shr : VO (rI (fun _ j => 0 ≤ j) fun i j => .int (i / 2 ^ j.toNat)) rInt rInt rInt shrG := fun c F cs H v w a b d k r1 r2 q Q hQ => by
  unfold shrG at q
  split at q
  · rename_i h
    cases q
    exact ⟨a, b, r1, r2, h, hQ _ F H (Evl.Ex.refl _) k rfl⟩
  · cases q
theorem vo_shl : VO (rI CPow fun i j => .int (i * 2 ^ j.toNat)) rInt rInt rInt shlG := fun c F cs H v w a b d k r1 r2 q Q hQ => by
  unfold shlG at q
  split at q
  · rename_i h
    cases q
    exact ⟨a, b, r1, r2, h, hQ _ F H (Evl.Ex.refl _) k rfl⟩
  · cases q
theorem vo_and : VO (rI0 fun i j => .int (Builtin.bitAnd i j)) rInt rInt rInt andG := fun c F cs H v w a b d k r1 r2 q Q hQ => by
  cases q; exact ⟨a, b, r1, r2, hQ _ F H (Evl.Ex.refl _) k rfl⟩
theorem vo_or : VO (rI0 fun i j => .int (Builtin.bitOr i j)) rInt rInt rInt orG := fun c F cs H v w a b d k r1 r2 q Q hQ => by
  cases q; exact ⟨a, b, r1, r2, hQ _ F H (Evl.Ex.refl _) k rfl⟩
/-! ### with effects -/
section
variable {α β γ δ ρ : Type} {ra : Rp α} {rb : Rp β} {rr : Rp ρ} {g : Gp δ} {σ : L2.St} {F H : Hp} {cs : γ → Cs} {s : γ} {ta : TA} {te tb : TE} {K : PySem.W.Frag} {L : List PySem.Str} {W : WX} {c : Act}
def SAG {δ γ : Type} (g : Gp δ) (ta : TA) (σ : L2.St) (F : Hp) (cs0 : Cs) (m : Option (δ × γ)) (cs : γ → Cs) : Prop := ∀ d s', m = some (d, s') → ∀ c F1 H, Ex F F1 → Cov c F1 cs0 H → ∀ Q : List V → Hp → Prop, (∀ vs F2 H2, Ex F1 F2 → Cov c F2 (cs s') H2 → g.r F2 vs d → Q vs H2) → ta σ H Q
def sGC {α δ γ : Type} (a : Option (α × γ)) (n : γ → Option (δ × γ)) : Option ((α × δ) × γ) := sC a fun x s => sC (n s) fun y s => some ((x, y), s)
theorem sag_nil : SAG gpN tNil σ F (cs s) (some ((), s)) cs := fun d s' q c F1 H e k Q hQ => by
  cases q
  exact hQ [] F1 H (Evl.Ex.refl _) k rfl
theorem sag_cons {ma : Option (α × γ)} {n : γ → Option (δ × γ)} (h : SM ra te σ F (cs s) ma cs) (hr : ∀ s, SAG g ta σ F (cs s) (n s) cs) : SAG (gpC ra g) (tCons te ta) σ F (cs s) (sGC ma n) cs := fun d s' q c F1 H e k Q hQ => by
  unfold sGC at q
  obtain ⟨a, s1, q1, q⟩ := sC_some q
  obtain ⟨b, s2, q2, q⟩ := sC_some q
  cases q
  refine h a s1 q1 c F1 H e k _ fun v F2 H2 e2 k2 r2 => hr s1 b _ q2 c F2 H2 (e.trans e2) k2 _ fun vs F3 H3 e3 k3 r3 => hQ _ F3 H3 (e2.trans e3) k3 ⟨v, vs, rfl, ra.up e3 r2, r3⟩
theorem sm_Xcall {m : δ → Option (Except Er ρ)} {ma : Option (δ × γ)} (h : SAG g ta σ F (cs s) ma cs) : SM rr (tCall (Xsp K L g rr m) [] E0 ta) σ F (cs s) (sC ma fun a s => sK s ((m a).bind okG)) cs := fun d s' q c F0 H0 e0 k0 Q hQ => by
  obtain ⟨a, s1, q1, q⟩ := sC_some q
  obtain ⟨q3, eg⟩ := sP_some q
  subst eg
  obtain ⟨y, q2, q9⟩ := bind_some q3
  refine h a _ q1 c F0 H0 e0 k0 _ fun vs F1 H1 e1 k1 x1 => ?_
  cases y with
  | error _ => cases q9
  | ok y =>
    cases q9
    refine ⟨F1, a, _, k1.ex, by rw [List.append_nil]; exact x1, q2, fun x ex v F9 H9 k9 r9 => ?_, fun er ee => by cases ee⟩
    cases ex
    exact hQ v F9 H9 (e1.trans k9.fz) (k1.call0 k9) r9
theorem sm_XcallN {m : δ → Option (Except Er ρ)} {gV : List V → List V → List V} {δ1 δ2 : Type} {g1 : Gp δ1} {g2 : Gp δ2} {tk : TA} {m1 : Option (δ1 × γ)} {m2 : γ → Option (δ2 × γ)} {sh : δ1 → δ2 → δ} (h : SAG g1 ta σ F (cs s) m1 cs) (hk : ∀ s, SAG g2 tk σ F (cs s) (m2 s) cs)
    (hs : ∀ H vs zs a b, g1.r H vs a → g2.r H zs b → g.r H (gV vs zs) (sh a b)) : SM rr (tCallN g1.n g2.n (Xsp K L g rr m) gV E0 ta tk) σ F (cs s) (sC m1 fun a s => sC (m2 s) fun b s => sK s ((m (sh a b)).bind okG)) cs := fun d s' q c F0 H0 e0 k0 Q hQ => by
  obtain ⟨a, s1, q1, q⟩ := sC_some q
  obtain ⟨b, s2, q2, q⟩ := sC_some q
  obtain ⟨q3, eg⟩ := sP_some q
  subst eg
  obtain ⟨y, q3, q9⟩ := bind_some q3
  cases y with
  | error _ => cases q9
  | ok y =>
    cases q9
    refine h a s1 q1 c F0 H0 e0 k0 _ fun vs F1 H1 e1 k1 x1 => hk s1 b _ q2 c F1 H1 (e0.trans e1) k1 _ fun zs F2 H2 e2 k2 x2 => ⟨g1.len x1, g2.len x2, ?_⟩
    refine ⟨F2, _, _, k2.ex, hs _ _ _ _ _ (g1.up e2 x1) x2, q3, fun x ex v F9 H9 k9 r9 => ?_, fun er ee => by cases ee⟩
    cases ex
    exact hQ v F9 H9 ((e1.trans e2).trans k9.fz) (k2.call0 k9) r9
theorem sm_isi {n : String} {b : α → Bool} {m : Option (α × γ)} (hb : IsT K ra (.type n) b) (h : SM ra te σ F (cs s) m cs) : SM rBool (tCB (rIsi K) (tCons te (tCons (tC (.ty n)) tNil))) σ F (cs s) (m.map fun r => (b r.1, r.2)) cs := fun d s' q c F1 H e k Q hQ => by
  cases m with
  | none => cases q
  | some a =>
    obtain ⟨a, s1⟩ := a
    cases q
    refine h a _ rfl c F1 H e k _ fun v F2 H2 e2 k2 r2 => ?_
    obtain ⟨t, h1, h2⟩ := hb F2 H2 v a k2.ex r2
    exact ⟨v, .ty n, t, .type n, b a, rfl, .ty n, h1, h2, hQ _ F2 H2 e2 k2 rfl⟩
theorem sm_mapR {f : α → β} {m : Option (α × γ)} (hp : ∀ F v x, ra.r F v x → rb.r F v (f x)) (h : SM ra te σ F (cs s) m cs) : SM rb te σ F (cs s) (m.map fun r => (f r.1, r.2)) cs := fun d s' q c F1 H e k Q hQ => by
  cases m with
  | none => cases q
  | some a =>
    obtain ⟨a, s1⟩ := a
    cases q
    exact h a _ rfl c F1 H e k Q fun v F2 H2 e2 k2 r2 => hQ v F2 H2 e2 k2 (hp _ _ _ r2)
/-- xs[i] of a cell that is not the one followed -/
theorem sm_ixC {i j : Nat} {p : Addr} {ds : List α} {mi : Option (Int × γ)} (h : σ[i]? = some (some (.ref p))) (hj : ∀ s, (cs s)[j]? = some (p, cLst ra ds)) (hb : SM rInt tb σ F (cs s) mi cs) : SM ra (tOp (rIxL K) (tVar i) tb) σ F (cs s) (s1 (fun b s => sK s (ixG ds b)) mi) cs := fun d s' q c F0 H0 f0 k0 Q hQ => by
  obtain ⟨b, s1, q2, q⟩ := sC_some q
  obtain ⟨q3, eg⟩ := sP_some q
  subst eg
  refine ⟨_, h, hb b _ q2 c F0 H0 f0 k0 _ fun y F3 H3 e3 k3 r3 => ?_⟩
  cases r3
  obtain ⟨_, _, o, h3, vs, rfl, h4⟩ := k3.at_ j (hj _)
  obtain ⟨v, h5, h6⟩ := rs_at h4 q3
  exact ⟨p, vs, b, v, rfl, rfl, SqL.of h3, h5, hQ v F3 H3 e3 k3 h6⟩
theorem Cov.pick2 {cs : Cs} {y z : Addr × Cp} (k : Cov c F (y :: cs) H) (j : Nat) (h : cs[j]? = some z) : Cov c F [y, z] H := by
  obtain ⟨p, x⟩ := z
  obtain ⟨l1, l2, rfl, _⟩ := Cov.split h
  have q : Cov c F ((p, x) :: ((y :: l1) ++ l2)) H := Cov.toHead (l1 := y :: l1) k
  exact (q.keepN 2).perm (List.Perm.swap _ _ _)
/-- a cell handed back as a new one, beside the one that was lent -/
theorem a_retCM {cs : Cs} {D : Ends} {i j : Nat} {p : Addr} {y : Addr × Cp} {ds : List α} (hx : σ[i]? = some (some (.ref p))) (hj : cs[j]? = some (p, cLst ra ds)) (k : Cov c F (y :: cs) H) (n : ∀ q F2 H2, Cov c F2 [y, (q, cLst ra ds)] H2 → D.rt (.ref q) H2) : tRet (tVar i) D σ H := ⟨_, hx, n p F H (k.pick2 j hj)⟩
end
/-! ### pairs of what may raise -/
def oX2 {α β : Type} (m1 : Option (Except Er α)) (m2 : Option (Except Er β)) : Option (Except Er (α × β)) := m1.bind fun r => match r with
  | .error e => some (.error e)
  | .ok a => m2.bind fun r2 => match r2 with
    | .error e => some (.error e)
    | .ok b => some (.ok (a, b))
section
variable {α β : Type} {ra : Rp α} {rb : Rp β} {σ : L2.St} {F H : Hp} {cs : Cs} {ta tb te : TE} {K : PySem.W.Frag} {L : List PySem.Str} {W : WX} {c : Act} {D : Ends} {tz : TS}
theorem ex_pure {m : Option α} (h : EM ra te σ F cs m) : EMX K L W ra te σ F cs (m.map Except.ok) := fun d q c F1 H e k Q hQ hE => by
  cases m with
  | none => cases q
  | some a =>
    cases q
    exact h a rfl c F1 H e k Q fun v F2 H2 e2 k2 r2 => hQ a rfl v F2 H2 e2 k2 r2
theorem ex_tup2 {m1 : Option (Except Er α)} {m2 : Option (Except Er β)} (h1 : EMX K L W ra ta σ F cs m1) (h2 : EMX K L W rb tb σ F cs m2) : EMX K L W (rP2 K ra rb) (tTup (tCons ta (tCons tb tNil))) σ F cs (oX2 m1 m2) := fun d q c F1 H e k Q hQ hE => by
  obtain ⟨y, q1, q2⟩ := bind_some q
  refine h1 y q1 c F1 H e k _ (fun x ex v F2 H2 e2 k2 r2 => ?_) fun er ee cls dd F2 H2 e2 k2 r2 => ?_
  · subst ex
    obtain ⟨z, q3, q4⟩ := bind_some q2
    refine h2 z q3 c F2 H2 (e.trans e2) k2 _ (fun u eu w F3 H3 e3 k3 r3 => ⟨by show 2 ≤ sizeLine; decide, fun p hp => ?_⟩) fun er ee cls dd F3 H3 e3 k3 r3 => ?_
    · subst eu
      have q4 := Option.some.inj q4
      have fp := k3.fnone hp
      exact hQ (x, u) q4.symm (.ref p) _ _ ((e2.trans e3).trans (Ex.new fp)) (k3.lay hp) ⟨p, v, w, rfl, upd_same, ra.up (e3.trans (Ex.new fp)) r2, rb.up (Ex.new fp) r3⟩
    · subst ee
      have q4 := Option.some.inj q4
      exact hE er q4.symm cls dd F3 H3 (e2.trans e3) k3 r3
  · subst ee
    have q2 := Option.some.inj q2
    exact hE er q2.symm cls dd F2 H2 e2 k2 r2
theorem a_unp2X {i j : Nat} {d : Except Er (α × β)} {m : Option (Except Er (α × β))} (h : EMX K L W (rP2 K ra rb) te σ F cs m) (hm : m = some d) (k : Cov c F cs H) (ne : ∀ er, d = .error er → ∀ cls dd F2 H2, Ex F F2 → Cov c F2 cs H2 → rEr K L F2 cls dd er → W cls dd σ H2)
    (n : ∀ x, d = .ok x → ∀ v w F2 H2, Ex F F2 → Cov c F2 cs H2 → ra.r F2 v x.1 → rb.r F2 w x.2 → D.nx ((σ.set i (some v)).set j (some w)) H2) : tAsg te (gTup K 2 (gCons (gName i) (gCons (gName j) gNil))) D σ H :=
  h d hm c F H (Evl.Ex.refl _) k _ (fun x ex v F2 H2 e2 k2 r2 => by
    obtain ⟨a, v1, v2, rfl, h1, h2, h3⟩ := r2
    exact ⟨a, [v1, v2], rfl, ext_ k2.ex h1, rfl, v1, [v2], rfl, v2, [], rfl, rfl, n x ex v1 v2 F2 H2 e2 k2 h2 h3⟩) ne
theorem q_unp2X {i j : Nat} {d : Except Er (α × β)} {m : Option (Except Er (α × β))} (h : EMX K L W (rP2 K ra rb) te σ F cs m) (hm : m = some d) (k : Cov c F cs H) (ne : ∀ er, d = .error er → ∀ cls dd F2 H2, Ex F F2 → Cov c F2 cs H2 → rEr K L F2 cls dd er → W cls dd σ H2)
    (n : ∀ x, d = .ok x → ∀ v w F2 H2, Ex F F2 → Cov c F2 cs H2 → ra.r F2 v x.1 → rb.r F2 w x.2 → tz D ((σ.set i (some v)).set j (some w)) H2) : tSeq (tAsg te (gTup K 2 (gCons (gName i) (gCons (gName j) gNil)))) tz D σ H := a_unp2X (D := { D with nx := tz D }) h hm k ne n
theorem a_parX {i j : Nat} {d : Except Er (α × β)} {m1 : Option (Except Er α)} {m2 : Option (Except Er β)} (h1 : EMX K L W ra ta σ F cs m1) (h2 : EMX K L W rb tb σ F cs m2) (hm : oX2 m1 m2 = some d) (k : Cov c F cs H) (ne : ∀ er, d = .error er → ∀ cls dd F2 H2, Ex F F2 → Cov c F2 cs H2 → rEr K L F2 cls dd er → W cls dd σ H2)
    (n : ∀ x, d = .ok x → ∀ v w F2 H2, Ex F F2 → Cov c F2 cs H2 → ra.r F2 v x.1 → rb.r F2 w x.2 → D.nx ((σ.set i (some v)).set j (some w)) H2) : tPar i j (tCons ta (tCons tb tNil)) D σ H := by
  obtain ⟨y, q1, q2⟩ := bind_some hm
  refine h1 y q1 c F H (Evl.Ex.refl _) k _ (fun x ex v F2 H2 e2 k2 r2 => ?_) fun er ee cls dd F2 H2 e2 k2 r2 => ?_
  · subst ex
    obtain ⟨z, q3, q4⟩ := bind_some q2
    refine h2 z q3 c F2 H2 e2 k2 _ (fun u eu w F3 H3 e3 k3 r3 => ⟨v, w, rfl, ?_⟩) fun er ee cls dd F3 H3 e3 k3 r3 => ?_
    · subst eu
      have q4 := Option.some.inj q4
      exact n (x, u) q4.symm v w F3 H3 (e2.trans e3) k3 (ra.up e3 r2) r3
    · subst ee
      have q4 := Option.some.inj q4
      exact ne er q4.symm cls dd F3 H3 (e2.trans e3) k3 r3
  · subst ee
    have q2 := Option.some.inj q2
    exact ne er q2.symm cls dd F2 H2 e2 k2 r2
theorem q_parX {i j : Nat} {d : Except Er (α × β)} {m1 : Option (Except Er α)} {m2 : Option (Except Er β)} (h1 : EMX K L W ra ta σ F cs m1) (h2 : EMX K L W rb tb σ F cs m2) (hm : oX2 m1 m2 = some d) (k : Cov c F cs H) (ne : ∀ er, d = .error er → ∀ cls dd F2 H2, Ex F F2 → Cov c F2 cs H2 → rEr K L F2 cls dd er → W cls dd σ H2)
    (n : ∀ x, d = .ok x → ∀ v w F2 H2, Ex F F2 → Cov c F2 cs H2 → ra.r F2 v x.1 → rb.r F2 w x.2 → tz D ((σ.set i (some v)).set j (some w)) H2) : tSeq (tPar i j (tCons ta (tCons tb tNil))) tz D σ H := a_parX (D := { D with nx := tz D }) h1 h2 hm k ne n
end
end Mw

set_option exponentiation.threshold 20000
set_option maxHeartbeats 2000000
/-! plain lemmas about the mirrors' words -/
namespace Pl
open PySem Mw L2
section
variable {α β γ ρ σ : Type}
@[simp] theorem bind_s {f : α → Option β} {a : α} : (some a).bind f = f a := id rfl
@[simp] theorem o1_s {g : α → Option γ} {a : α} : o1 g (some a) = g a := id rfl
@[simp] theorem o2_s {g : α → β → Option γ} {a : α} {b : β} : o2 g (some a) (some b) = g a b := id rfl
@[simp] theorem o3_s {g : α → β → γ → Option ρ} {a : α} {b : β} {c : γ} : o3 g (some a) (some b) (some c) = g a b c := id rfl
@[simp] theorem o4_s {g : α → β → γ → ρ → Option σ} {a : α} {b : β} {c : γ} {d : ρ} : o4 g (some a) (some b) (some c) (some d) = g a b c d := id rfl
@[simp] theorem sP_s {a : α} {s : γ} : sP (some a) s = some (a, s) := id rfl
@[simp] theorem sK_s {a : α} {s : γ} : sK s (some a) = some (a, s) := id rfl
@[simp] theorem sC_s {a : α} {s : γ} {f : α → γ → Option (β × γ)} : sC (some (a, s)) f = f a s := id rfl
@[simp] theorem s1_s {a : α} {s : γ} {f : α → γ → Option (ρ × γ)} : s1 f (some (a, s)) = f a s := id rfl
@[simp] theorem s2_s {a : α} {s : γ} {f : α → β → γ → Option (ρ × γ)} {m : γ → Option (β × γ)} : s2 f (some (a, s)) m = sC (m s) fun b s => f a b s := id rfl
@[simp] theorem oAnd_t {b : Option Bool} : oAnd (some true) b = b := id rfl
@[simp] theorem oAnd_f {b : Option Bool} : oAnd (some false) b = some false := id rfl
@[simp] theorem oOr_t {b : Option Bool} : oOr (some true) b = some true := id rfl
@[simp] theorem oOr_f {b : Option Bool} : oOr (some false) b = b := id rfl
@[simp] theorem oNot_s {a : Bool} : oNot (some a) = some (!a) := id rfl
@[simp] theorem oIf_t {a b : Option α} : oIf (some true) a b = a := id rfl
@[simp] theorem oIf_f {a b : Option α} : oIf (some false) a b = b := id rfl
@[simp] theorem sAnd_t {s : γ} {b : γ → Option (Bool × γ)} : sAnd (some (true, s)) b = b s := id rfl
@[simp] theorem sAnd_f {s : γ} {b : γ → Option (Bool × γ)} : sAnd (some (false, s)) b = some (false, s) := id rfl
@[simp] theorem sOr_t {s : γ} {b : γ → Option (Bool × γ)} : sOr (some (true, s)) b = some (true, s) := id rfl
@[simp] theorem sOr_f {s : γ} {b : γ → Option (Bool × γ)} : sOr (some (false, s)) b = b s := id rfl
@[simp] theorem sNot_s {a : Bool} {s : γ} : sNot (some (a, s)) = some (!a, s) := id rfl
@[simp] theorem oCons_s {a : α} {l : List α} : oCons (some a) (some l) = some (a :: l) := id rfl
@[simp] theorem sCons_s {a : α} {s : γ} {l : γ → Option (List α × γ)} : sCons (some (a, s)) l = sC (l s) fun r s => some (a :: r, s) := id rfl
@[simp] theorem oP2_s {a : α} {b : β} : oP2 (some a) (some b) = some (a, b) := id rfl
@[simp] theorem oP3_s {a : α} {b : β} {c : γ} : oP3 (some a) (some b) (some c) = some (a, b, c) := id rfl
@[simp] theorem addG_s {a b : Int} : addG a b = some (a + b) := id rfl
@[simp] theorem subG_s {a b : Int} : subG a b = some (a - b) := id rfl
@[simp] theorem ltG_s {a b : Int} : ltG a b = some (decide (a < b)) := id rfl
@[simp] theorem leG_s {a b : Int} : leG a b = some (decide (a ≤ b)) := id rfl
@[simp] theorem gtG_s {a b : Int} : gtG a b = some (decide (b < a)) := id rfl
@[simp] theorem geG_s {a b : Int} : geG a b = some (decide (b ≤ a)) := id rfl
@[simp] theorem eqG_s {α : Type} [DecidableEq α] {a b : α} : eqG a b = some (decide (a = b)) := id rfl
@[simp] theorem neG_s {α : Type} [DecidableEq α] {a b : α} : neG a b = some (!decide (a = b)) := id rfl
@[simp] theorem absG_s {a : Int} : absG a = some (a.natAbs : Int) := by unfold absG; congr 1; split <;> omega
@[simp] theorem abs_if {a : Int} : (if a < 0 then -a else a) = (a.natAbs : Int) := by split <;> omega
@[simp] theorem negG_s {a : Int} : negG a = some (-a) := id rfl
@[simp] theorem maxG_s {a b : Int} : maxG a b = some (max a b) := by unfold maxG; congr 1; split <;> omega
@[simp] theorem minG_s {a b : Int} : minG a b = some (min a b) := by unfold minG; congr 1; split <;> omega
@[simp] theorem lenG_s {l : List α} : lenG l = some (l.length : Int) := id rfl
@[simp] theorem inG_s {a : Int} {l : List Int} : inG a l = some (decide (a ∈ l)) := id rfl
@[simp] theorem notInG_s {a : Int} {l : List Int} : notInG a l = some (!decide (a ∈ l)) := id rfl
theorem modG_s {a b : Int} (h : 0 < b) : modG a b = some (a % b) := if_pos h
theorem divG_s {a b : Int} {n : Nat} (h : 0 < b) (hb : b < 2 ^ n) (hn : n ≤ 9000) (h0 : 0 < n := by decide) : divG a b = some (a / b) := if_pos ⟨h, by
  have e : ((2 ^ n : Nat) : Int) = (2 : Int) ^ n := by rw [Int.natCast_pow] <;> rfl
  have q : b.natAbs < 2 ^ n := by omega
  have z := PySem.Flt.log2_lt_of h0 q
  omega⟩
theorem divG_neg {a b : Int} {n : Nat} (h : b < 0) (hb : -b < 2 ^ n) (hn : n ≤ 9000) (h0 : 0 < n := by decide) : divG a b = some (Int.fdiv a b) := by
  unfold divG
  rw [if_neg (by omega), if_pos ⟨h, by
    have e : ((2 ^ n : Nat) : Int) = (2 : Int) ^ n := by rw [Int.natCast_pow] <;> rfl
    have q : b.natAbs < 2 ^ n := by omega
    have z := PySem.Flt.log2_lt_of h0 q
    omega⟩]
theorem mulG_l {a b : Int} (h : a.natAbs < 2 ^ 64) : mulG a b = some (a * b) := if_pos (.inl h)
theorem mulG_r {a b : Int} (h : b.natAbs < 2 ^ 64) : mulG a b = some (a * b) := if_pos (.inr (.inl h))
theorem mulG_b {a b : Int} {m n : Nat} (ha : a.natAbs < 2 ^ m) (hb : b.natAbs < 2 ^ n) (h0 : 0 < m := by decide) (h1 : 0 < n := by decide) (h : m + n ≤ 134000000 := by decide) : mulG a b = some (a * b) := if_pos (.inr (.inr (by
  have x := PySem.Flt.log2_lt_of h0 ha
  have y := PySem.Flt.log2_lt_of h1 hb
  omega)))
theorem powG_s {a b : Int} (h0 : 0 ≤ b) (h1 : b ≤ 1000000) (ha : a.natAbs < 2 ^ 64) : powG a b = some (a ^ b.toNat) := if_pos ⟨h0, h1, ha⟩
theorem szG_s {l : List α} (h : l.length ≤ 16000000) : szG l = some l := if_pos h
theorem catG_s {a b : List α} (h : a.length + b.length ≤ 16000000) : catG a b = some (a ++ b) := if_pos h
theorem appG_s {a : List α} {x : α} (h : a.length ≤ 16000000) : appG a x = some (a ++ [x]) := if_pos h
theorem rngG_s {n : Int} (h : -(2 ^ 62) ≤ n) (h2 : n < 2 ^ 62) : rngG n = some (rngL 0 n) := if_pos ⟨h, h2⟩
theorem repG_s {a : List α} {k : Int} (h : -(2 ^ 63) ≤ k) (h1 : k < 2 ^ 20) (h2 : a.length ≤ 15) : repG a k = some (List.replicate k.toNat a).flatten := if_pos ⟨h, h1, h2⟩
@[simp] theorem cut_nn {l : List α} : cut l none none = l := by
  unfold cut
  simp [HT.sIx]
theorem cut_to {l : List α} {n : Nat} : cut l none (some (n : Int)) = l.take n := by
  unfold cut
  rw [HT.sIx_none, HT.sIx_nat, List.drop_zero, Nat.sub_zero]
  by_cases h : n ≤ l.length
  · rw [Nat.min_eq_left h]
  · rw [Nat.min_eq_right (by omega), List.take_of_length_le (Nat.le_refl _), List.take_of_length_le (by omega)]
theorem oCut_s {l : List α} {a b : Option Int} : oCut (some l) (some a) (some b) = some (cut l a b) := id rfl
/-! indices -/
theorem ixG_nat {l : List α} {i : Nat} {x : α} (h : l[i]? = some x) : ixG l (i : Int) = some x := atI_nat h
theorem ixG_at {l : List α} {i : Int} (h0 : 0 ≤ i) (h : i < l.length) : ixG l i = some (l[i.toNat]'(by omega)) := by
  obtain ⟨n, rfl⟩ : ∃ n : Nat, i = (n : Int) := ⟨i.toNat, by omega⟩
  exact ixG_nat (by simp)
@[simp] theorem ix0 {a : α} {l : List α} : ixG (a :: l) 0 = some a := ixG_nat (i := 0) rfl
@[simp] theorem ix1 {a b : α} {l : List α} : ixG (a :: b :: l) 1 = some b := ixG_nat (i := 1) rfl
@[simp] theorem ix2 {a b c : α} {l : List α} : ixG (a :: b :: c :: l) 2 = some c := ixG_nat (i := 2) rfl
theorem setG_nat {l : List α} {i : Nat} {x : α} (h : i < l.length) : setG l (i : Int) x = some (l.set i x) := by
  unfold setG ixN
  rw [if_pos (by omega), if_pos (by omega)]
  simp
@[simp] theorem set0 {a x : α} {l : List α} : setG (a :: l) 0 x = some (x :: l) := setG_nat (i := 0) (by simp)
@[simp] theorem set1 {a b x : α} {l : List α} : setG (a :: b :: l) 1 x = some (a :: x :: l) := setG_nat (i := 1) (by simp)
@[simp] theorem set2 {a b c x : α} {l : List α} : setG (a :: b :: c :: l) 2 x = some (a :: b :: x :: l) := setG_nat (i := 2) (by simp)
/-! loops -/
theorem fold_nil {f : α → γ → Option γ} {g : γ} : oFold f [] g = some g := id rfl
theorem fold_cons {f : α → γ → Option γ} {a : α} {l : List α} {g : γ} : oFold f (a :: l) g = (f a g).bind (oFold f l) := id rfl
theorem fold_app {f : α → γ → Option γ} : ∀ {l m : List α} {g : γ}, oFold f (l ++ m) g = (oFold f l g).bind (oFold f m)
  | [], _, _ => rfl
  | a :: l, m, g => by
    rw [List.cons_append, fold_cons, fold_cons]
    cases f a g with
    | none => rfl
    | some g' => exact fold_app (l := l)
/-- a fold by an invariant -/
theorem fold_inv {f : α → γ → Option γ} (I : List α → γ → Prop) : ∀ (l : List α) (g : γ), I l g → (∀ a l g, I (a :: l) g → ∃ g', f a g = some g' ∧ I l g') → ∃ g', oFold f l g = some g' ∧ I [] g'
  | [], g, h, _ => ⟨g, rfl, h⟩
  | a :: l, g, h, hs => by
    obtain ⟨g', h1, h2⟩ := hs a l g h
    obtain ⟨g'', h3, h4⟩ := fold_inv I l g' h2 hs
    exact ⟨g'', by rw [fold_cons, h1]; exact h3, h4⟩
/-- a fold that is a plain fold -/
theorem fold_pure {f : α → γ → Option γ} {h : γ → α → γ} (P : α → Prop) (hf : ∀ a g, P a → f a g = some (h g a)) : ∀ (l : List α) (g : γ), (∀ a ∈ l, P a) → oFold f l g = some (l.foldl h g)
  | [], _, _ => rfl
  | a :: l, g, hl => by
    rw [fold_cons, hf a g (hl a List.mem_cons_self)]
    exact fold_pure P hf l _ fun b hb => hl b (List.mem_cons_of_mem _ hb)
theorem fold_pureI {f : α → γ → Option γ} {h : γ → α → γ} (P : α → Prop) (I : γ → Prop) (hI : ∀ g a, P a → I g → I (h g a)) (hf : ∀ a g, P a → I g → f a g = some (h g a)) : ∀ (l : List α) (g : γ), (∀ a ∈ l, P a) → I g → oFold f l g = some (l.foldl h g)
  | [], _, _, _ => rfl
  | a :: l, g, hl, hg => by
    rw [fold_cons, hf a g (hl a List.mem_cons_self) hg]
    exact fold_pureI P I hI hf l _ (fun b hb => hl b (List.mem_cons_of_mem _ hb)) (hI g a (hl a List.mem_cons_self) hg)
/-- a search that finds nothing -/
theorem loop_go {f : α → γ → Option (Lp γ ρ)} (I : List α → γ → Prop) : ∀ (l : List α) (g : γ), I l g → (∀ a l g, I (a :: l) g → ∃ g', f a g = some (.go g') ∧ I l g') → ∃ g', oLoop f l g = some (.nx g') ∧ I [] g'
  | [], g, h, _ => ⟨g, rfl, h⟩
  | a :: l, g, h, hs => by
    obtain ⟨g', h1, h2⟩ := hs a l g h
    obtain ⟨g'', h3, h4⟩ := loop_go I l g' h2 hs
    refine ⟨g'', ?_, h4⟩
    show ((f a g).bind _) = _
    rw [h1]
    exact h3
theorem loop_unit {f : α → Unit → Option (Lp Unit ρ)} {l : List α} (h : ∀ a ∈ l, f a () = some (.go ())) : oLoop f l () = some (.nx ()) := by
  obtain ⟨g, h1, _⟩ := loop_go (f := f) (fun l' _ => ∀ a ∈ l', a ∈ l) l () (fun a ha => ha) fun a l' g ha => ⟨(), h a (ha a List.mem_cons_self), fun b hb => ha b (List.mem_cons_of_mem _ hb)⟩
  cases g
  exact h1
theorem map_ok {t : α → Option Bool} {f : α → Option β} {p : α → Bool} {h : α → β} : ∀ {l : List α}, (∀ a ∈ l, t a = some (p a)) → (∀ a ∈ l, p a = true → f a = some (h a)) → oMap t f l = some ((l.filter p).map h)
  | [], _, _ => rfl
  | a :: l, ht, hf => by
    have ih := map_ok (l := l) (fun b hb => ht b (List.mem_cons_of_mem _ hb)) (fun b hb => hf b (List.mem_cons_of_mem _ hb))
    show (t a).bind _ = _
    rw [ht a List.mem_cons_self]
    show (if p a = true then _ else _) = _
    by_cases q : p a = true
    · rw [if_pos q, hf a List.mem_cons_self q, ih, List.filter_cons_of_pos q] <;> rfl
    · rw [if_neg q, ih, List.filter_cons_of_neg q]
theorem lc_ok {t : α → Option Bool} {f : α → Option β} {p : α → Bool} {h : α → β} {l : List α} (hl : l.length ≤ 16000000) (ht : ∀ a ∈ l, t a = some (p a)) (hf : ∀ a ∈ l, p a = true → f a = some (h a)) : oLc t f l = some ((l.filter p).map h) := by
  unfold oLc
  rw [if_pos hl, map_ok ht hf]
theorem lc_map {f : α → Option β} {h : α → β} {l : List α} (hl : l.length ≤ 16000000) (hf : ∀ a ∈ l, f a = some (h a)) : oLc yes f l = some (l.map h) := by
  have q := lc_ok (t := yes) (p := fun _ => true) hl (fun _ _ => rfl) fun a ha _ => hf a ha
  rw [List.filter_eq_self.mpr (fun _ _ => rfl)] at q
  exact q
/-- a comprehension that draws -/
theorem smap_inv {f : α → γ → Option (β × γ)} (I : Nat → γ → Prop) (B : β → Prop) : ∀ (l : List α) (n : Nat) (g : γ), I n g → (∀ a n g, a ∈ l → I n g → ∃ x g', f a g = some (x, g') ∧ B x ∧ I (n + 1) g') → ∃ xs g', sMap f l g = some (xs, g') ∧ xs.length = l.length ∧ (∀ x ∈ xs, B x) ∧ I (n + l.length) g'
  | [], n, g, h, _ => ⟨[], g, rfl, rfl, (fun x hx => absurd hx List.not_mem_nil), h⟩
  | a :: l, n, g, h, hs => by
    obtain ⟨x, g', h1, h2, h3⟩ := hs a n g List.mem_cons_self h
    obtain ⟨xs, g'', h4, h5, h6, h7⟩ := smap_inv I B l (n + 1) g' h3 fun b n g hb => hs b n g (List.mem_cons_of_mem _ hb)
    refine ⟨x :: xs, g'', ?_, by simp [h5], fun y hy => ?_, ?_⟩
    · show sC (f a g) _ = _
      rw [h1, sC_s, h4, sC_s]
    · rcases List.mem_cons.mp hy with rfl | hy
      · exact h2
      · exact h6 y hy
    · have e : n + (a :: l).length = n + 1 + l.length := by
        rw [List.length_cons]
        omega
      rw [e]
      exact h7
theorem slc_inv {f : α → γ → Option (β × γ)} (I : Nat → γ → Prop) (B : β → Prop) {l : List α} {n : Nat} {g : γ} (hl : l.length ≤ 16000000) (h : I n g) (hs : ∀ a n g, a ∈ l → I n g → ∃ x g', f a g = some (x, g') ∧ B x ∧ I (n + 1) g') : ∃ xs g', sLc f l g = some (xs, g') ∧ xs.length = l.length ∧ (∀ x ∈ xs, B x) ∧ I (n + l.length) g' := by
  unfold sLc
  rw [if_pos hl]
  exact smap_inv I B l n g h hs
theorem rngL_mem {lo hi i : Int} (h : i ∈ rngL lo hi) : lo ≤ i ∧ i < hi := by
  unfold rngL at h
  obtain ⟨k, h1, h2⟩ := List.mem_map.mp h
  have := List.mem_range.mp h1
  omega
/-- a while: measure -/
theorem while_step {t : γ → Option Bool} {f : γ → Option γ} {n : Nat} {g g' : γ} (ht : t g = some true) (hf : f g = some g') : oWhile t f (n + 1) g = oWhile t f n g' := by
  simp only [oWhile, ht, hf, bind_s, if_true]
theorem while_stop {t : γ → Option Bool} {f : γ → Option γ} {n : Nat} {g : γ} (ht : t g = some false) : oWhile t f (n + 1) g = some g := by
  simp only [oWhile, ht, bind_s, if_neg Bool.false_ne_true]
/-- more fuel does no harm -/
theorem while_more {t : γ → Option Bool} {f : γ → Option γ} {g1 : γ} : ∀ {n m : Nat} {g : γ}, oWhile t f n g = some g1 → n ≤ m → oWhile t f m g = some g1
  | 0, _, _, h, _ => by cases h
  | n + 1, 0, _, _, h => by omega
  | n + 1, m + 1, g, h, hl => by
    obtain ⟨b, h1, h2⟩ := Mw.bind_some h
    cases b with
    | true =>
      obtain ⟨g', h3, h4⟩ := Mw.bind_some h2
      rw [while_step h1 h3]
      exact while_more h4 (by omega)
    | false =>
      rw [while_stop h1]
      exact h2
end
/-! ### what a mirror's word answers -/
section
variable {α β γ ρ : Type}
def W (m : Option α) (Q : α → Prop) : Prop := ∃ d, m = some d ∧ Q d
theorem W_some {d : α} {Q : α → Prop} (h : Q d) : W (some d) Q := ⟨d, rfl, h⟩
theorem W_eq {m : Option α} {d : α} {Q : α → Prop} (e : m = some d) (h : Q d) : W m Q := ⟨d, e, h⟩
theorem W_bind {m : Option α} {f : α → Option β} {Q : β → Prop} (h : W m fun d => W (f d) Q) : W (m.bind f) Q := by
  obtain ⟨d, rfl, d2, e2, q⟩ := h
  exact ⟨d2, e2, q⟩
theorem W_mono {m : Option α} {P Q : α → Prop} (h : W m P) (hq : ∀ d, P d → Q d) : W m Q := by
  obtain ⟨d, e, p⟩ := h
  exact ⟨d, e, hq d p⟩
theorem W_then {m : Option α} {f : α → Option β} {P : α → Prop} {Q : β → Prop} (h : W m P) (hq : ∀ d, P d → W (f d) Q) : W (m.bind f) Q := W_bind (W_mono h hq)
theorem W_beq {m : Option α} {f : α → Option β} {d : α} {Q : β → Prop} (e : m = some d) (h : W (f d) Q) : W (m.bind f) Q := W_bind (W_eq e h)
theorem W_sC {m : Option (α × γ)} {f : α → γ → Option (β × γ)} {P : α × γ → Prop} {Q : β × γ → Prop} (h : W m P) (hq : ∀ a s, P (a, s) → W (f a s) Q) : W (sC m f) Q := by
  obtain ⟨⟨a, s⟩, rfl, p⟩ := h
  exact hq a s p
theorem W_o1 {m : Option α} {f : α → Option β} {P : α → Prop} {Q : β → Prop} (h : W m P) (hq : ∀ d, P d → W (f d) Q) : W (o1 f m) Q := by
  obtain ⟨a, rfl, p⟩ := h
  exact hq a p
theorem W_ite {c : Prop} [Decidable c] {a b : Option α} {Q : α → Prop} (h1 : c → W a Q) (h2 : ¬ c → W b Q) : W (if c then a else b) Q := by
  split
  · exact h1 ‹_›
  · exact h2 ‹_›
theorem W_is {m : Option α} {d : α} (h : W m fun x => x = d) : m = some d := by
  obtain ⟨a, rfl, p⟩ := h
  rw [p]
theorem W_ix {l : List α} {i : Int} {Q : α → Prop} (h0 : 0 ≤ i) (h1 : i < l.length) (h : ∀ a, a ∈ l → Q a) : W (ixG l i) Q := W_eq (ixG_at h0 h1) (h _ (List.getElem_mem _))
theorem W_set {l : List α} {i : Int} {x : α} {Q : List α → Prop} (h0 : 0 ≤ i) (h1 : i < l.length) (h : Q (l.set i.toNat x)) : W (setG l i x) Q := by
  obtain ⟨n, rfl⟩ : ∃ n : Nat, i = (n : Int) := ⟨i.toNat, by omega⟩
  exact W_eq (setG_nat (by omega)) h
theorem W_slc {f : α → γ → Option (β × γ)} {Q : List β × γ → Prop} (I : Nat → γ → Prop) (B : β → Prop) {l : List α} {g : γ} (n : Nat) (hl : l.length ≤ 16000000) (h : I n g) (hs : ∀ a n g, a ∈ l → I n g → W (f a g) fun r => B r.1 ∧ I (n + 1) r.2) (hq : ∀ xs g', xs.length = l.length → (∀ x ∈ xs, B x) → I (n + l.length) g' → Q (xs, g')) : W (sLc f l g) Q := by
  obtain ⟨xs, g', e, h1, h2, h3⟩ := slc_inv I B hl h fun a n g ha hi => by
    obtain ⟨⟨x, g'⟩, e, b, i⟩ := hs a n g ha hi
    exact ⟨x, g', e, b, i⟩
  exact ⟨_, e, hq _ _ h1 h2 h3⟩
theorem W_fold {f : α → γ → Option γ} {Q : γ → Prop} (I : List α → γ → Prop) {l : List α} {g : γ} (h : I l g) (hs : ∀ a l g, I (a :: l) g → W (f a g) (I l)) (hq : ∀ g, I [] g → Q g) : W (oFold f l g) Q := by
  obtain ⟨g', e, i⟩ := fold_inv I l g h hs
  exact ⟨g', e, hq g' i⟩
theorem W_loop {f : α → γ → Option (Lp γ ρ)} {Q : Out γ ρ → Prop} (I : List α → γ → Prop) {l : List α} {g : γ} (h : I l g) (hs : ∀ a l g, I (a :: l) g → W (f a g) fun o => match o with
    | .go g' => I l g'
    | .brk g' => Q (.nx g')
    | .ret r => Q (.ret r)) (hq : ∀ g, I [] g → Q (.nx g)) : W (oLoop f l g) Q := by
  induction l generalizing g with
  | nil => exact ⟨_, rfl, hq g h⟩
  | cons a l ih =>
    obtain ⟨o, e, i⟩ := hs a l g h
    simp only [oLoop, e, bind_s]
    cases o with
    | go g' => exact ih i
    | brk g' => exact ⟨_, rfl, i⟩
    | ret r => exact ⟨_, rfl, i⟩
/-- a search over all, each of which lets it go on -/
theorem W_all {f : α → Unit → Option (Lp Unit ρ)} {Q : Out Unit ρ → Prop} {l : List α} (hs : ∀ a ∈ l, W (f a ()) fun o => o = .go ()) (hq : Q (.nx ())) : W (oLoop f l ()) Q := by
  have e : oLoop f l () = some (.nx ()) := loop_unit fun a ha => W_is (hs a ha)
  exact ⟨_, e, hq⟩
end
/-! ### Euclid -/
theorem euclid {t : Int × Int → Option Bool} {f : Int × Int → Option (Int × Int)} (ht : ∀ a b, t (a, b) = some (decide (0 < b))) (hf : ∀ a b, 0 < b → f (a, b) = some (b, a % b)) :
    ∀ (b a n : Nat), b < n → oWhile t f n ((a : Int), (b : Int)) = some (((Nat.gcd a b : Nat) : Int), 0) := by
  intro b
  induction b using Nat.strongRecOn with
  | ind b ih =>
    intro a n hn
    obtain ⟨n, rfl⟩ : ∃ k, n = k + 1 := ⟨n - 1, by omega⟩
    by_cases hb : b = 0
    · subst hb
      rw [while_stop (by rw [ht]; rfl), Nat.gcd_zero_right] <;> rfl
    · have hb' : 0 < b := Nat.pos_of_ne_zero hb
      rw [while_step (g' := ((b : Int), ((a % b : Nat) : Int))) (by rw [ht]; congr 1; exact decide_eq_true (by omega)) (by rw [hf _ _ (by omega)]; congr 1)]
      have hlt := Nat.mod_lt a hb'
      rw [ih (a % b) hlt b n (by omega)]
      rw [Nat.gcd_comm b (a % b), ← Nat.gcd_rec, Nat.gcd_comm]
/-- the greatest common divisor of a list -/
def gcdL (l : List Int) : Nat := l.foldl (fun g v => Nat.gcd g v.natAbs) 0
theorem foldl_gcd (l : List Int) : ∀ g : Nat, l.foldl (fun g v => Nat.gcd g v.natAbs) g = Nat.gcd g (gcdL l) := by
  induction l with
  | nil => intro g; unfold gcdL; simp
  | cons a l ih =>
    intro g
    unfold gcdL
    rw [List.foldl_cons, List.foldl_cons, ih, ih, Nat.gcd_zero_left, Nat.gcd_assoc]
theorem gcdL_nil : gcdL [] = 0 := id rfl
theorem gcdL_cons (a : Int) (l : List Int) : gcdL (a :: l) = Nat.gcd a.natAbs (gcdL l) := by
  unfold gcdL
  rw [List.foldl_cons, foldl_gcd, Nat.gcd_zero_left] <;> rfl
theorem gcdL_append (l r : List Int) : gcdL (l ++ r) = Nat.gcd (gcdL l) (gcdL r) := by
  unfold gcdL
  rw [List.foldl_append, foldl_gcd] <;> rfl
theorem gcdL_reverse (l : List Int) : gcdL l.reverse = gcdL l := by
  induction l with
  | nil => rfl
  | cons a l ih => rw [List.reverse_cons, gcdL_append, ih, gcdL_cons, gcdL_cons, gcdL_nil, Nat.gcd_zero_right, Nat.gcd_comm]
theorem gcdL_neg (l : List Int) : gcdL (l.map fun v => 0 - v) = gcdL l := by
  induction l with
  | nil => rfl
  | cons a l ih =>
    rw [List.map_cons, gcdL_cons, gcdL_cons, ih]
    have e : (0 - a).natAbs = a.natAbs := by omega
    rw [e]
theorem gcdL_dvd {l : List Int} {v : Int} (h : v ∈ l) : (gcdL l : Int) ∣ v := by
  induction l with
  | nil => cases h
  | cons a l ih =>
    rw [gcdL_cons]
    rcases List.mem_cons.mp h with rfl | h
    · exact Int.ofNat_dvd_left.mpr (Nat.gcd_dvd_left _ _)
    · exact Int.dvd_trans (Int.natCast_dvd_natCast.mpr (Nat.gcd_dvd_right _ _)) (ih h)
theorem dvd_gcdL {l : List Int} {d : Nat} (h : ∀ v ∈ l, (d : Int) ∣ v) : d ∣ gcdL l := by
  induction l with
  | nil => exact Nat.dvd_zero _
  | cons a l ih =>
    rw [gcdL_cons]
    exact Nat.dvd_gcd (Int.ofNat_dvd_left.mp (h a List.mem_cons_self)) (ih fun v hv => h v (List.mem_cons_of_mem _ hv))
theorem gcdL_mul (l : List Int) (s : Int) : gcdL (l.map fun v => v * s) = gcdL l * s.natAbs := by
  induction l with
  | nil => simp [gcdL_nil]
  | cons a l ih => rw [List.map_cons, gcdL_cons, gcdL_cons, ih, Int.natAbs_mul, Nat.gcd_mul_right]
theorem gcdL_zero {l : List Int} (h : gcdL l = 0) : ∀ v ∈ l, v = 0 := fun v hv => by
  have := gcdL_dvd hv
  rw [h] at this
  exact Int.zero_dvd.mp this
theorem gcdL_le {l : List Int} {v : Int} (h : v ∈ l) (h0 : v ≠ 0) : gcdL l ≤ v.natAbs := by
  have := gcdL_dvd h
  exact Nat.le_of_dvd (by omega) (Int.ofNat_dvd_left.mp this)
theorem gcdL_zeros {l : List Int} (h : ∀ v ∈ l, v = 0) : gcdL l = 0 := by
  induction l with
  | nil => rfl
  | cons a l ih => rw [gcdL_cons, ih fun v hv => h v (List.mem_cons_of_mem _ hv), h a List.mem_cons_self]; rfl
theorem sk_ints (l : List Int) : Sk.ok l = true := List.all_eq_true.mpr fun _ _ => rfl
theorem eqDG_ints (a b : List Int) : eqDG a b = some (decide (a = b)) := if_pos ⟨sk_ints a, sk_ints b⟩
theorem neDG_ints (a b : List Int) : neDG a b = some (!decide (a = b)) := if_pos ⟨sk_ints a, sk_ints b⟩
theorem maxL_ok : ∀ l : List Int, l ≠ [] → ∃ m, maxL l = some m ∧ m ∈ l ∧ ∀ v ∈ l, v ≤ m := fun l h => by
  cases l with
  | nil => exact absurd rfl h
  | cons a l => exact ⟨_, rfl, (foldl_max l a).2, (foldl_max l a).1⟩
theorem W_bs {α β γ : Type} {m : Option (α × γ)} {f : α × γ → Option β} {P : α → γ → Prop} {Q : β → Prop} (h : W m fun r => P r.1 r.2) (hq : ∀ a s, P a s → W (f (a, s)) Q) : W (m.bind f) Q := by
  obtain ⟨⟨a, s⟩, rfl, p⟩ := h
  exact hq a s p
/-! searches, lists by index -/
section
variable {α β ρ : Type}
theorem loop_find {p : α → Bool} {f : α → Unit → Option (Lp Unit ρ)} {r : α → ρ} : ∀ {l : List α}, (∀ a ∈ l, f a () = if p a = true then some (.ret (r a)) else some (.go ())) → oLoop f l () = some (match l.find? p with
    | some a => .ret (r a)
    | none => .nx ())
  | [], _ => rfl
  | a :: l, hf => by
    have ih := loop_find (l := l) fun b hb => hf b (List.mem_cons_of_mem _ hb)
    by_cases q : p a = true
    · simp only [oLoop, hf a List.mem_cons_self, if_pos q, bind_s]
      rw [List.find?_cons_of_pos q]
    · simp only [oLoop, hf a List.mem_cons_self, if_neg q, bind_s]
      rw [List.find?_cons_of_neg q]
      exact ih
theorem lc_rng {f : Int → Option β} {h : Nat → β} {n : Nat} (hn : n ≤ 16000000) (hf : ∀ i, i < n → f (i : Int) = some (h i)) : oLc yes f (rngL 0 n) = some ((List.range n).map h) := by
  have e : rngL 0 n = (List.range n).map fun (i : Nat) => (i : Int) := by
    unfold rngL
    have e1 : ((n : Int) - 0).toNat = n := by omega
    rw [e1]
    exact List.map_congr_left fun i _ => Int.zero_add _
  have q : ∀ l : List Nat, (∀ i ∈ l, i < n) → oMap yes f (l.map fun (i : Nat) => (i : Int)) = some (l.map h) := by
    intro l
    induction l with
    | nil => intro _; rfl
    | cons i l ih =>
      intro hl
      rw [List.map_cons]
      simp only [oMap, yes, bind_s, if_true, hf i (hl i List.mem_cons_self)]
      have := ih fun j hj => hl j (List.mem_cons_of_mem _ hj)
      rw [this]
      rfl
  unfold oLc
  rw [if_pos (by rw [rngL_len]; omega), e]
  exact q _ fun i hi => List.mem_range.mp hi
theorem range_zip {γ : Type} {g : α → β → γ} {a : List α} {b : List β} (h : a.length = b.length) : ∀ {k : Nat → γ}, (∀ i (h1 : i < a.length) (h2 : i < b.length), k i = g a[i] b[i]) → (List.range a.length).map k = List.zipWith g a b := by
  intro k hk
  refine List.ext_getElem (by simp [h]) fun i h1 h2 => ?_
  simp at h1 h2
  rw [List.getElem_map, List.getElem_range, List.getElem_zipWith]
  exact hk i h1 (by omega)
theorem range_map {γ : Type} {g : α → γ} {a : List α} : ∀ {k : Nat → γ}, (∀ i (h1 : i < a.length), k i = g a[i]) → (List.range a.length).map k = a.map g := by
  intro k hk
  refine List.ext_getElem (by simp) fun i h1 h2 => ?_
  simp at h1 h2
  rw [List.getElem_map, List.getElem_range, List.getElem_map]
  exact hk i h1
theorem ixG_i {l : List α} {i : Nat} (h : i < l.length) : ixG l (i : Int) = some l[i] := ixG_nat (by simp [h])
@[simp] theorem rngW_s {a b : Int} : rngW a b = some (rngL a b) := id rfl
theorem extG_s {a b : List α} (h : a.length + b.length ≤ 16000000) : extG a b = some (a ++ b) := if_pos h
@[simp] theorem oApp_s {a l : List α} : oApp (some a) (some l) = some (a ++ l) := id rfl
@[simp] theorem map_s {f : α → β} {a : α} : Option.map f (some a) = some (f a) := id rfl
end
theorem rngL_cons {a b : Int} (h : a < b) : rngL a b = a :: rngL (a + 1) b := by
  unfold rngL
  rw [show (b - a).toNat = (b - (a + 1)).toNat + 1 by omega, List.range_succ_eq_map, List.map_cons, List.map_map]
  congr 1
  · omega
  · exact List.map_congr_left fun i _ => by show a + ((i + 1 : Nat) : Int) = a + 1 + (i : Int); omega
theorem rngL_nil' {a b : Int} (h : b ≤ a) : rngL a b = [] := by
  unfold rngL
  rw [show (b - a).toNat = 0 by omega]
  rfl
section
variable {β γ : Type}
theorem smapR {f : Int → γ → Option (β × γ)} (I : Nat → γ → Prop) (B : β → Prop) {N : Nat} (hs : ∀ i g, i < N → I i g → W (f (i : Int) g) fun r => B r.1 ∧ I (i + 1) r.2) : ∀ (k j : Nat) (g : γ), j + k = N → I j g → ∃ xs g', sMap f (rngL (j : Int) (N : Int)) g = some (xs, g') ∧ xs.length = k ∧ (∀ x ∈ xs, B x) ∧ I N g'
  | 0, j, g, e, h => by
    have e : j = N := e
    subst e
    rw [rngL_nil' (Int.le_refl _)]
    exact ⟨[], g, rfl, rfl, fun x hx => absurd hx List.not_mem_nil, h⟩
  | k + 1, j, g, e, h => by
    rw [rngL_cons (by omega)]
    obtain ⟨⟨x, g1⟩, e1, b1, h1⟩ := hs j g (by omega) h
    obtain ⟨xs, g2, e2, l2, b2, h2⟩ := smapR I B hs k (j + 1) g1 (by omega) h1
    have ej : (j : Int) + 1 = ((j + 1 : Nat) : Int) := by omega
    refine ⟨x :: xs, g2, ?_, by rw [List.length_cons, l2], fun y hy => ?_, h2⟩
    · simp only [sMap, e1, sC_s, ej, e2]
    · rcases List.mem_cons.mp hy with rfl | hy
      · exact b1
      · exact b2 y hy
theorem W_slcR {f : Int → γ → Option (β × γ)} {Q : List β × γ → Prop} (I : Nat → γ → Prop) (B : β → Prop) {N : Nat} {g : γ} (hN : N ≤ 16000000) (h : I 0 g) (hs : ∀ i g, i < N → I i g → W (f (i : Int) g) fun r => B r.1 ∧ I (i + 1) r.2) (hq : ∀ xs g', xs.length = N → (∀ x ∈ xs, B x) → I N g' → Q (xs, g')) : W (sLc f (rngL 0 (N : Int)) g) Q := by
  obtain ⟨xs, g', e, l, b, i⟩ := smapR I B hs N 0 g (Nat.zero_add _) h
  unfold sLc
  rw [if_pos (by rw [rngL_len]; omega)]
  exact ⟨_, e, hq xs g' l b i⟩
/-- a fold over 0 .. N - 1, by the index -/
theorem W_foldR {f : Int → γ → Option γ} {Q : γ → Prop} (I : Nat → γ → Prop) {N : Nat} {g : γ} (h : I 0 g) (hs : ∀ i g, i < N → I i g → W (f (i : Int) g) (I (i + 1))) (hq : ∀ g, I N g → Q g) : W (oFold f (rngL 0 (N : Int)) g) Q := by
  have key : ∀ (k j : Nat) (g : γ), j + k = N → I j g → ∃ g', oFold f (rngL (j : Int) (N : Int)) g = some g' ∧ I N g' := by
    intro k
    induction k with
    | zero =>
      intro j g e h
      have e : j = N := e
      subst e
      rw [rngL_nil' (Int.le_refl _)]
      exact ⟨g, rfl, h⟩
    | succ k ih =>
      intro j g e h
      rw [rngL_cons (by omega)]
      obtain ⟨g1, e1, h1⟩ := hs j g (by omega) h
      obtain ⟨g2, e2, h2⟩ := ih (j + 1) g1 (by omega) h1
      have ej : (j : Int) + 1 = ((j + 1 : Nat) : Int) := by omega
      exact ⟨g2, by rw [fold_cons, e1, bind_s, ej, e2], h2⟩
  obtain ⟨g', e, i⟩ := key N 0 g (Nat.zero_add _) h
  exact ⟨g', e, hq g' i⟩
end
theorem cut_from {α : Type} {l : List α} {n : Nat} : cut l (some (n : Int)) none = l.drop n := by
  unfold cut
  rw [HT.sIx_none, HT.sIx_nat]
  by_cases h : n ≤ l.length
  · rw [Nat.min_eq_left h]
    exact List.take_of_length_le (by rw [List.length_drop]; omega)
  · rw [Nat.min_eq_right (by omega), Nat.sub_self, List.take_zero, List.drop_eq_nil_of_le (by omega)]
theorem euclidN {t : Int × Int → Option Bool} {f : Int × Int → Option (Int × Int)} (ht : ∀ a b : Nat, t ((a : Int), (b : Int)) = some (decide (0 < b))) (hf : ∀ a b : Nat, 0 < b → f ((a : Int), (b : Int)) = some ((b : Int), ((a % b : Nat) : Int))) :
    ∀ (b a n : Nat), b < n → oWhile t f n ((a : Int), (b : Int)) = some (((Nat.gcd a b : Nat) : Int), 0) := by
  intro b
  induction b using Nat.strongRecOn with
  | ind b ih =>
    intro a n hn
    obtain ⟨n, rfl⟩ : ∃ k, n = k + 1 := ⟨n - 1, by omega⟩
    by_cases hb : b = 0
    · subst hb
      rw [while_stop (by rw [ht]; rfl), Nat.gcd_zero_right] <;> rfl
    · have hb' : 0 < b := Nat.pos_of_ne_zero hb
      rw [while_step (g' := ((b : Int), ((a % b : Nat) : Int))) (by rw [ht]; congr 1; exact decide_eq_true hb') (hf _ _ hb')]
      have hlt := Nat.mod_lt a hb'
      rw [ih (a % b) hlt b n (by omega)]
      rw [Nat.gcd_comm b (a % b), ← Nat.gcd_rec, Nat.gcd_comm]
/-! types whose data are always as they stand: == and in answer -/
section
class SkA (α : Type) [Sk α] : Prop where
  all : ∀ a : α, Sk.ok a = true
instance : SkA Int := ⟨fun _ => rfl⟩
instance : SkA Bool := ⟨fun _ => rfl⟩
instance : SkA Unit := ⟨fun _ => rfl⟩
instance {α : Type} [Sk α] [SkA α] : SkA (List α) := ⟨fun l => List.all_eq_true.mpr fun a _ => SkA.all a⟩
instance {α β : Type} [Sk α] [Sk β] [SkA α] [SkA β] : SkA (α × β) := ⟨fun p => Bool.and_eq_true_iff.mpr ⟨SkA.all p.1, SkA.all p.2⟩⟩
instance {α : Type} [Sk α] [SkA α] : SkA (Option α) := ⟨fun o => match o with
  | none => rfl
  | some a => SkA.all a⟩
variable {α : Type} [DecidableEq α] [Sk α] [SkA α]
theorem eqDG_s (a b : α) : eqDG a b = some (decide (a = b)) := if_pos ⟨SkA.all a, SkA.all b⟩
theorem neDG_s (a b : α) : neDG a b = some (!decide (a = b)) := if_pos ⟨SkA.all a, SkA.all b⟩
theorem inDG_s (a : α) (l : List α) : inDG a l = some (decide (a ∈ l)) := if_pos ⟨SkA.all a, SkA.all l⟩
theorem notInDG_s (a : α) (l : List α) : notInDG a l = some (!decide (a ∈ l)) := if_pos ⟨SkA.all a, SkA.all l⟩
end
end Pl

set_option maxHeartbeats 1000000
/-! numbers: primes, what divides, inverses, two remainders at once; no program -/
namespace Nt
def Prm (p : Nat) : Prop := 2 ≤ p ∧ ∀ d, d ∣ p → d = 1 ∨ d = p
theorem Prm.pos {p : Nat} (h : Prm p) : 0 < p := by have := h.1; omega
theorem Prm.coprime {p a : Nat} (h : Prm p) (ha : ¬ p ∣ a) : Nat.Coprime p a := by
  rcases h.2 _ (Nat.gcd_dvd_left p a) with e | e
  · exact e
  · exact absurd (e ▸ Nat.gcd_dvd_right p a) ha
theorem Prm.dvd_mul {p a b : Nat} (h : Prm p) (hd : p ∣ a * b) : p ∣ a ∨ p ∣ b := by
  by_cases q : p ∣ a
  · exact .inl q
  · exact .inr (Nat.Coprime.dvd_of_dvd_mul_left (h.coprime q) hd)
theorem Prm.coprime2 {p q : Nat} (h : Prm p) (hq : Prm q) (n : p ≠ q) : Nat.Coprime p q := h.coprime fun d => by
  rcases hq.2 p d with e | e
  · have := h.1; omega
  · exact n e
theorem Prm.dvd_int {p : Nat} (h : Prm p) {a b : Int} (hd : (p : Int) ∣ a * b) : (p : Int) ∣ a ∨ (p : Int) ∣ b := by
  have h1 : p ∣ a.natAbs * b.natAbs := by
    have := Int.ofNat_dvd_left.mp hd
    rwa [Int.natAbs_mul] at this
  rcases h.dvd_mul h1 with q | q
  · exact .inl (Int.ofNat_dvd_left.mpr q)
  · exact .inr (Int.ofNat_dvd_left.mpr q)
theorem exists_prm : ∀ n : Nat, 2 ≤ n → ∃ p, Prm p ∧ p ∣ n := by
  intro n
  induction n using Nat.strongRecOn with
  | ind n ih =>
    intro hn
    by_cases q : Prm n
    · exact ⟨n, q, Nat.dvd_refl n⟩
    · have : ∃ d, d ∣ n ∧ d ≠ 1 ∧ d ≠ n := Classical.byContradiction fun z => q ⟨hn, fun d hd => by
        by_cases e1 : d = 1
        · exact .inl e1
        · by_cases e2 : d = n
          · exact .inr e2
          · exact absurd ⟨d, hd, e1, e2⟩ z⟩
      obtain ⟨d, hd, n1, n2⟩ := this
      have h1 := Nat.le_of_dvd (by omega) hd
      have h0 : d ≠ 0 := fun e => by
        subst e
        have := Nat.eq_zero_of_zero_dvd hd
        omega
      obtain ⟨p, hp, hpd⟩ := ih d (by omega) (by omega)
      exact ⟨p, hp, Nat.dvd_trans hpd hd⟩
/-- no prime divides both -/
theorem coprime_of_prm {a b : Nat} (h : ∀ p, Prm p → p ∣ a → ¬ p ∣ b) (h0 : a ≠ 0 ∨ b ≠ 0) : Nat.gcd a b = 1 := by
  by_cases e : Nat.gcd a b = 1
  · exact e
  · have n0 : Nat.gcd a b ≠ 0 := fun z => by
      have := Nat.gcd_eq_zero_iff.mp z
      omega
    obtain ⟨p, hp, hd⟩ := exists_prm (Nat.gcd a b) (by omega)
    exact absurd (Nat.dvd_trans hd (Nat.gcd_dvd_right a b)) (h p hp (Nat.dvd_trans hd (Nat.gcd_dvd_left a b)))
theorem gcd_one_iff {a b : Nat} (h0 : b ≠ 0) : Nat.gcd a b = 1 ↔ ∀ p, Prm p → p ∣ b → ¬ p ∣ a := by
  constructor
  · intro h p hp hb ha
    have := Nat.dvd_gcd ha hb
    rw [h] at this
    have h1 := Nat.le_of_dvd (by decide) this
    have := hp.1
    omega
  · intro h
    exact coprime_of_prm (fun p hp ha hb => h p hp hb ha) (.inr h0)
/-- what the primes' loop knows: all primes below q are found, m is what is left -/
structure PI (N : Nat) (found : List Nat) (m q : Nat) : Prop where
  q2 : 2 ≤ q
  m1 : 1 ≤ m
  mN : m ≤ N
  asc : found.Pairwise (· < ·)
  mem : ∀ p, p ∈ found ↔ Prm p ∧ p ∣ N ∧ p < q
  up : ∀ p, Prm p → q ≤ p → (p ∣ N ↔ p ∣ m)
  dn : ∀ p, Prm p → p < q → ¬ p ∣ m
/-- the ascending list of the primes that divide N -/
structure PD (N : Nat) (l : List Nat) : Prop where
  asc : l.Pairwise (· < ·)
  mem : ∀ p, p ∈ l ↔ Prm p ∧ p ∣ N
theorem PI.start {N : Nat} (h : 1 ≤ N) : PI N [] N 2 := ⟨Nat.le_refl _, h, Nat.le_refl _, .nil, fun p => ⟨fun q => (by cases q), fun q => by have := q.1.1; omega⟩, fun p _ _ => Iff.rfl, fun p hp q => by have := hp.1; omega⟩
theorem PI.skip {N m q : Nat} {l : List Nat} (h : PI N l m q) (hq : ¬ q ∣ m) : PI N l m (q + 1) := by
  refine ⟨by have := h.q2; omega, h.m1, h.mN, h.asc, fun p => ?_, fun p hp hl => h.up p hp (by omega), fun p hp hl => ?_⟩
  · rw [h.mem p]
    constructor
    · rintro ⟨a, b, c⟩
      exact ⟨a, b, by omega⟩
    · rintro ⟨a, b, c⟩
      refine ⟨a, b, ?_⟩
      by_cases e : p = q
      · subst e
        exact absurd ((h.up p a (Nat.le_refl _)).mp b) hq
      · omega
  · by_cases e : p = q
    · subst e
      exact hq
    · exact h.dn p hp (by omega)
theorem PI.prm {N m q : Nat} {l : List Nat} (h : PI N l m q) (hq : q ∣ m) : Prm q := by
  obtain ⟨p, hp, hd⟩ := exists_prm q h.q2
  have h1 := Nat.le_of_dvd (by have := h.q2; omega) hd
  by_cases e : p = q
  · exact e ▸ hp
  · exact absurd (Nat.dvd_trans hd hq) (h.dn p hp (by omega))
/-- q divides; m' is m without q -/
theorem PI.take {N m m' q k : Nat} {l : List Nat} (h : PI N l m q) (hq : q ∣ m) (e : m = q ^ k * m') (hn : ¬ q ∣ m') : PI N (l ++ [q]) m' (q + 1) := by
  have hp := h.prm hq
  have m0 : 1 ≤ m' := by
    rcases Nat.eq_zero_or_pos m' with z | z
    · subst z
      exact absurd (Nat.dvd_zero q) hn
    · exact z
  have hle : m' ≤ m := by rw [e]; exact Nat.le_mul_of_pos_left _ (Nat.pow_pos hp.pos)
  have other : ∀ p, Prm p → p ≠ q → (p ∣ m ↔ p ∣ m') := fun p hp2 ne => by
    constructor
    · intro hd
      rw [e] at hd
      have : ∀ k, p ∣ q ^ k * m' → p ∣ m' := by
        intro k
        induction k with
        | zero => intro z; simpa using z
        | succ k ih =>
          intro z
          rw [Nat.pow_succ, Nat.mul_assoc] at z
          have z2 : p ∣ q * (q ^ k * m') := by
            have e3 : q ^ k * (q * m') = q * (q ^ k * m') := by rw [Nat.mul_left_comm]
            rw [← e3]
            exact z
          exact ih (Nat.Coprime.dvd_of_dvd_mul_left (hp2.coprime2 hp ne) z2)
      exact this k hd
    · intro hd
      rw [e]
      exact Nat.dvd_trans hd (Nat.dvd_mul_left _ _)
  refine ⟨by have := h.q2; omega, m0, by have := h.mN; omega, ?_, fun p => ?_, fun p hp2 hl => ?_, fun p hp2 hl => ?_⟩
  · rw [List.pairwise_append]
    refine ⟨h.asc, List.pairwise_singleton _ _, fun a ha b hb => ?_⟩
    have := ((h.mem a).mp ha).2.2
    have e : b = q := by simpa using hb
    omega
  · rw [List.mem_append, h.mem p]
    constructor
    · rintro (⟨a, b, c⟩ | z)
      · exact ⟨a, b, by omega⟩
      · have e : p = q := by simpa using z
        subst e
        exact ⟨hp, (h.up p hp (Nat.le_refl _)).mpr hq, by omega⟩
    · rintro ⟨a, b, c⟩
      by_cases e : p = q
      · subst e
        exact .inr (by simp)
      · exact .inl ⟨a, b, by omega⟩
  · rw [h.up p hp2 (by omega), other p hp2 (by omega)]
  · by_cases e : p = q
    · subst e
      exact hn
    · exact fun z => h.dn p hp2 (by omega) ((other p hp2 e).mpr z)
theorem PI.end1 {N m q : Nat} {l : List Nat} (h : PI N l m q) (e : m = 1) : PD N l := by
  refine ⟨h.asc, fun p => ?_⟩
  rw [h.mem p]
  constructor
  · rintro ⟨a, b, _⟩
    exact ⟨a, b⟩
  · rintro ⟨a, b⟩
    refine ⟨a, b, ?_⟩
    by_cases z : p < q
    · exact z
    · have := (h.up p a (by omega)).mp b
      rw [e] at this
      have h1 := Nat.le_of_dvd (by decide) this
      have := a.1
      omega
theorem PI.end2 {N m q : Nat} {l : List Nat} (h : PI N l m q) (hm : 1 < m) (hq : m < q * q) : PD N (l ++ [m]) := by
  have hmp : Prm m := by
    obtain ⟨p, hp, hd⟩ := exists_prm m hm
    obtain ⟨s, rfl⟩ := hd
    have hpq : q ≤ p := by
      by_cases z : q ≤ p
      · exact z
      · exact absurd (Nat.dvd_mul_right p s) (h.dn p hp (by omega))
    by_cases s2 : 2 ≤ s
    · obtain ⟨t, ht, htd⟩ := exists_prm s s2
      have htq : q ≤ t := by
        by_cases z : q ≤ t
        · exact z
        · exact absurd (Nat.dvd_trans htd (Nat.dvd_mul_left s p)) (h.dn t ht (by omega))
      have h3 := Nat.le_of_dvd (by omega) htd
      have := Nat.mul_le_mul hpq (Nat.le_trans htq h3)
      omega
    · have : s = 1 := by
        rcases Nat.eq_zero_or_pos s with z | z
        · subst z
          simp at hm
        · omega
      subst this
      rw [Nat.mul_one]
      exact hp
  have hqm : q ≤ m := by
    by_cases z : q ≤ m
    · exact z
    · exact absurd (Nat.dvd_refl m) (h.dn m hmp (by omega))
  refine ⟨?_, fun p => ?_⟩
  · rw [List.pairwise_append]
    refine ⟨h.asc, List.pairwise_singleton _ _, fun a ha b hb => ?_⟩
    have := ((h.mem a).mp ha).2.2
    have e : b = m := by simpa using hb
    omega
  · rw [List.mem_append, h.mem p]
    constructor
    · rintro (⟨a, b, c⟩ | z)
      · exact ⟨a, b⟩
      · have e : p = m := by simpa using z
        subst e
        exact ⟨hmp, (h.up p hmp hqm).mpr (Nat.dvd_refl p)⟩
    · rintro ⟨a, b⟩
      by_cases z : p < q
      · exact .inl ⟨a, b, z⟩
      · have hd := (h.up p a (by omega)).mp b
        rcases hmp.2 p hd with e | e
        · have := a.1
          omega
        · exact .inr (by simp [e])
/-- two ascending lists of the same numbers are one -/
theorem asc_eq : ∀ {l r : List Nat}, l.Pairwise (· < ·) → r.Pairwise (· < ·) → (∀ p, p ∈ l ↔ p ∈ r) → l = r
  | [], [], _, _, _ => rfl
  | [], b :: r, _, _, h => absurd ((h b).mpr (by simp)) (by simp)
  | a :: l, [], _, _, h => absurd ((h a).mp (by simp)) (by simp)
  | a :: l, b :: r, hl, hr, h => by
    rw [List.pairwise_cons] at hl hr
    have e : a = b := by
      rcases List.mem_cons.mp ((h a).mp (by simp)) with e | e
      · exact e
      · rcases List.mem_cons.mp ((h b).mpr (by simp)) with e2 | e2
        · exact e2.symm
        · have h1 := hr.1 a e
          have h2 := hl.1 b e2
          omega
    subst e
    refine congrArg (a :: ·) (asc_eq hl.2 hr.2 fun p => ?_)
    have hp := h p
    rw [List.mem_cons, List.mem_cons] at hp
    constructor
    · intro z
      rcases hp.mp (.inr z) with e | e
      · have := hl.1 p z
        omega
      · exact e
    · intro z
      rcases hp.mpr (.inr z) with e | e
      · have := hr.1 p z
        omega
      · exact e
theorem PD.eq {N : Nat} {l r : List Nat} (h : PD N l) (g : PD N r) : l = r := asc_eq h.asc g.asc fun p => (h.mem p).trans (g.mem p).symm
theorem PD.prm {N : Nat} {l : List Nat} (h : PD N l) {p : Nat} (hp : p ∈ l) : Prm p := ((h.mem p).mp hp).1
theorem PD.dvd {N : Nat} {l : List Nat} (h : PD N l) {p : Nat} (hp : p ∈ l) : p ∣ N := ((h.mem p).mp hp).2
theorem PD.nil {N : Nat} {l : List Nat} (h : PD N l) (hN : 2 ≤ N) : l ≠ [] := fun e => by
  obtain ⟨p, hp, hd⟩ := exists_prm N hN
  have := (h.mem p).mpr ⟨hp, hd⟩
  rw [e] at this
  cases this
theorem PD.one {l : List Nat} (h : PD 1 l) : l = [] := by
  cases l with
  | nil => rfl
  | cons a l =>
    have h1 := h.dvd (p := a) (by simp)
    have h2 := Nat.le_of_dvd (by decide) h1
    have := (h.prm (p := a) (by simp)).1
    omega
/-- coprime to N: no prime of the list divides -/
theorem PD.gcd {N : Nat} {l : List Nat} (h : PD N l) (hN : 1 ≤ N) (u : Int) : Nat.gcd u.natAbs N = 1 ↔ ∀ p ∈ l, ¬ (p : Int) ∣ u := by
  rw [gcd_one_iff (by omega)]
  constructor
  · intro g p hp hd
    exact g p (h.prm hp) (h.dvd hp) (Int.ofNat_dvd_left.mp hd)
  · intro g p hp hd hu
    exact g p ((h.mem p).mpr ⟨hp, hd⟩) (Int.ofNat_dvd_left.mpr hu)
def prodN (l : List Nat) : Nat := l.foldr (· * ·) 1
theorem prodN_cons (a : Nat) (l : List Nat) : prodN (a :: l) = a * prodN l := rfl
theorem prodN_coprime {p : Nat} : ∀ {l : List Nat}, (∀ q ∈ l, Nat.Coprime p q) → Nat.Coprime p (prodN l)
  | [], _ => Nat.gcd_one_right p
  | a :: l, h => Nat.Coprime.mul_right (h a (by simp)) (prodN_coprime fun q hq => h q (List.mem_cons_of_mem _ hq))
theorem prodN_dvd {N : Nat} : ∀ {l : List Nat}, l.Pairwise (· < ·) → (∀ p ∈ l, Prm p ∧ p ∣ N) → prodN l ∣ N
  | [], _, _ => Nat.one_dvd N
  | a :: l, hs, h => by
    rw [List.pairwise_cons] at hs
    rw [prodN_cons]
    refine Nat.Coprime.mul_dvd_of_dvd_of_dvd (prodN_coprime fun q hq => (h a (by simp)).1.coprime2 (h q (List.mem_cons_of_mem _ hq)).1 ?_) (h a (by simp)).2 (prodN_dvd hs.2 fun p hp => h p (List.mem_cons_of_mem _ hp))
    have := hs.1 q hq
    omega
theorem PD.prod {N : Nat} {l : List Nat} (h : PD N l) : prodN l ∣ N := prodN_dvd h.asc fun p hp => (h.mem p).mp hp
theorem prodN_pow : ∀ {l : List Nat}, (∀ p ∈ l, 2 ≤ p) → 2 ^ l.length ≤ prodN l
  | [], _ => Nat.le_refl 1
  | a :: l, h => by
    rw [List.length_cons, Nat.pow_succ, prodN_cons, Nat.mul_comm]
    exact Nat.mul_le_mul (h a (by simp)) (prodN_pow fun p hp => h p (List.mem_cons_of_mem _ hp))
/-! q taken out -/
theorem strip {q : Nat} (hq : 2 ≤ q) : ∀ m : Nat, 1 ≤ m → ∃ m' k : Nat, m = q ^ k * m' ∧ ¬ q ∣ m' := by
  intro m
  induction m using Nat.strongRecOn with
  | ind m ih =>
    intro h1
    by_cases hd : q ∣ m
    · obtain ⟨s, rfl⟩ := hd
      have hs : 1 ≤ s := by
        rcases Nat.eq_zero_or_pos s with z | z
        · subst z; simp at h1
        · exact z
      have hlt : s < q * s := by
        have := Nat.mul_le_mul_right s hq
        omega
      obtain ⟨m', k, h2, h3⟩ := ih s hlt hs
      exact ⟨m', k + 1, by rw [Nat.pow_succ, Nat.mul_comm (q ^ k) q, Nat.mul_assoc, ← h2], h3⟩
    · exact ⟨m, 0, by simp, hd⟩
theorem strip_uniq {q m a b : Nat} (hq : 2 ≤ q) (hm : 1 ≤ m) : ∀ {j k : Nat}, m = q ^ j * a → ¬ q ∣ a → m = q ^ k * b → ¬ q ∣ b → a = b := by
  intro j k e1 h1 e2 h2
  have key : ∀ (i j a b : Nat), q ^ (j + i) * a = q ^ j * b → ¬ q ∣ b → i = 0 := by
    intro i j a b e h
    cases i with
    | zero => rfl
    | succ i =>
      exfalso
      rw [Nat.pow_add, Nat.mul_assoc] at e
      have := Nat.eq_of_mul_eq_mul_left (Nat.pow_pos (by omega)) e
      exact h ⟨q ^ i * a, by rw [← this, Nat.pow_succ, Nat.mul_comm (q ^ i) q, Nat.mul_assoc]⟩
  rcases Nat.le_total j k with hl | hl
  · obtain ⟨i, rfl⟩ := Nat.le.dest hl
    have z := key i j b a (by rw [← e1, ← e2]) h1
    subst z
    exact Nat.eq_of_mul_eq_mul_left (Nat.pow_pos (show 0 < q by omega)) (by rw [← e1, e2, Nat.add_zero])
  · obtain ⟨i, rfl⟩ := Nat.le.dest hl
    have z := key i k a b (by rw [← e1, ← e2]) h2
    subst z
    exact Nat.eq_of_mul_eq_mul_left (Nat.pow_pos (show 0 < q by omega)) (by rw [← e2, e1, Nat.add_zero])
/-! Bezout -/
theorem bezN : ∀ a b : Nat, ∃ x y : Int, x * a + y * b = (Nat.gcd a b : Int) := by
  intro a b
  induction a, b using Nat.gcd.induction with
  | H0 n => exact ⟨0, 1, by simp⟩
  | H1 m n hm ih =>
    obtain ⟨x, y, e⟩ := ih
    refine ⟨y - x * ((n / m : Nat) : Int), x, ?_⟩
    rw [Nat.gcd_rec, ← e]
    have e2 : (n : Int) = ((n % m : Nat) : Int) + (m : Int) * ((n / m : Nat) : Int) := by
      have := Nat.mod_add_div n m
      omega
    generalize ((n % m : Nat) : Int) = r at *
    generalize ((n / m : Nat) : Int) = k at *
    rw [e2, Int.sub_mul, Int.mul_add]
    have e3 : x * ((m : Int) * k) = x * k * m := by rw [Int.mul_comm (m : Int) k, Int.mul_assoc]
    rw [e3]
    omega
theorem bezI (a b : Int) : ∃ x y : Int, x * a + y * b = (Nat.gcd a.natAbs b.natAbs : Int) := by
  obtain ⟨x, y, e⟩ := bezN a.natAbs b.natAbs
  rcases Int.natAbs_eq a with ha | ha <;> rcases Int.natAbs_eq b with hb | hb
  · exact ⟨x, y, by rw [← e, ← ha, ← hb]⟩
  · exact ⟨x, -y, by rw [← e, ← ha]; rw [show y * (b.natAbs : Int) = -y * b by rw [hb, Int.mul_neg, Int.neg_mul]; simp]⟩
  · exact ⟨-x, y, by rw [← e, ← hb]; rw [show x * (a.natAbs : Int) = -x * a by rw [ha, Int.mul_neg, Int.neg_mul]; simp]⟩
  · exact ⟨-x, -y, by rw [← e]; rw [show y * (b.natAbs : Int) = -y * b by rw [hb, Int.mul_neg, Int.neg_mul]; simp, show x * (a.natAbs : Int) = -x * a by rw [ha, Int.mul_neg, Int.neg_mul]; simp]⟩
end Nt
namespace Nt
theorem bez3 (a b c : Int) : ∃ x y z : Int, x * a + y * b + z * c = (Nat.gcd (Nat.gcd a.natAbs b.natAbs) c.natAbs : Int) := by
  obtain ⟨x, y, e⟩ := bezI a b
  obtain ⟨u, v, f⟩ := bezI (Nat.gcd a.natAbs b.natAbs : Int) c
  refine ⟨u * x, u * y, v, ?_⟩
  rw [Int.natAbs_natCast] at f
  rw [← f, ← e]
  grind
theorem min2 {G s0 s1 d0 d1 x0 x1 : Int} (e : x0 * d0 + x1 * d1 = 1) (h : G ∣ s1 * d0 - s0 * d1) : G ∣ s0 + -(x0 * s0 + x1 * s1) * d0 ∧ G ∣ s1 + -(x0 * s0 + x1 * s1) * d1 := by
  obtain ⟨k, hk⟩ := h
  exact ⟨⟨-x1 * k, by grind⟩, ⟨x0 * k, by grind⟩⟩
theorem min3 {G s0 s1 s2 d0 d1 d2 x0 x1 x2 : Int} (e : x0 * d0 + x1 * d1 + x2 * d2 = 1) (h : G ∣ s1 * d0 - s0 * d1) (h2 : G ∣ s2 * d0 - s0 * d2) (h3 : G ∣ s2 * d1 - s1 * d2) :
    G ∣ s0 + -(x0 * s0 + x1 * s1 + x2 * s2) * d0 ∧ G ∣ s1 + -(x0 * s0 + x1 * s1 + x2 * s2) * d1 ∧ G ∣ s2 + -(x0 * s0 + x1 * s1 + x2 * s2) * d2 := by
  obtain ⟨k, hk⟩ := h
  obtain ⟨k2, hk2⟩ := h2
  obtain ⟨k3, hk3⟩ := h3
  exact ⟨⟨-x1 * k - x2 * k2, by grind⟩, ⟨x0 * k - x2 * k3, by grind⟩, ⟨x0 * k2 + x1 * k3, by grind⟩⟩
theorem minN {N al s0 s1 d0 d1 : Int} (h0 : N ∣ s0 - al * d0) (h1 : N ∣ s1 - al * d1) : N ∣ s1 * d0 - s0 * d1 := by
  obtain ⟨k, hk⟩ := h0
  obtain ⟨k2, hk2⟩ := h1
  exact ⟨k2 * d0 - k * d1, by grind⟩
open Mw Pl
/-! sums over a range -/
def sumR (f : Int → Int) (lo hi : Int) : Int := ((rngL lo (hi + 1)).map f).sum
theorem sumR_nil {f : Int → Int} {lo hi : Int} (h : hi < lo) : sumR f lo hi = 0 := by
  unfold sumR
  rw [rngL_nil' (by omega)]
  rfl
theorem rngL_snoc {a b : Int} (h : a ≤ b) : rngL a (b + 1) = rngL a b ++ [b] := by
  unfold rngL
  rw [show (b + 1 - a).toNat = (b - a).toNat + 1 by omega, List.range_succ, List.map_append]
  congr 1
  simp
  omega
theorem sumR_succ {f : Int → Int} {lo hi : Int} (h : lo ≤ hi + 1) : sumR f lo (hi + 1) = sumR f lo hi + f (hi + 1) := by
  unfold sumR
  rw [rngL_snoc h, List.map_append, List.sum_append]
  simp
/-- by the upper end -/
theorem up_ind {P : Int → Prop} {lo : Int} (h0 : P (lo - 1)) (hs : ∀ hi, lo ≤ hi + 1 → P hi → P (hi + 1)) : ∀ hi, lo ≤ hi + 1 → P hi := by
  intro hi h
  obtain ⟨n, rfl⟩ : ∃ n : Nat, hi = lo - 1 + n := ⟨(hi - (lo - 1)).toNat, by omega⟩
  clear h
  induction n with
  | zero => simpa using h0
  | succ n ih =>
    have := hs _ (by omega) ih
    rw [show lo - 1 + ((n + 1 : Nat) : Int) = lo - 1 + (n : Int) + 1 by omega]
    exact this
theorem sumR_congr {f g : Int → Int} {lo hi : Int} (h : ∀ t, lo ≤ t → t ≤ hi → f t = g t) : sumR f lo hi = sumR g lo hi := by
  unfold sumR
  congr 1
  refine List.map_congr_left fun t ht => ?_
  have := rngL_mem ht
  exact h t this.1 (by omega)
theorem sumR_zero {lo hi : Int} : sumR (fun _ => 0) lo hi = 0 := by
  unfold sumR
  generalize rngL lo (hi + 1) = l
  induction l with
  | nil => rfl
  | cons a l ih => rw [List.map_cons, List.sum_cons, ih]; rfl
theorem sumR_add {f g : Int → Int} {lo hi : Int} : sumR (fun t => f t + g t) lo hi = sumR f lo hi + sumR g lo hi := by
  unfold sumR
  generalize rngL lo (hi + 1) = l
  induction l with
  | nil => rfl
  | cons a l ih => rw [List.map_cons, List.sum_cons, ih, List.map_cons, List.sum_cons, List.map_cons, List.sum_cons]; omega
theorem sumR_mul {f : Int → Int} {c lo hi : Int} : sumR (fun t => c * f t) lo hi = c * sumR f lo hi := by
  unfold sumR
  generalize rngL lo (hi + 1) = l
  induction l with
  | nil => simp
  | cons a l ih => rw [List.map_cons, List.sum_cons, ih, List.map_cons, List.sum_cons, Int.mul_add]
theorem sumR_split {f : Int → Int} {lo mid : Int} (h : lo ≤ mid + 1) : ∀ hi, mid + 1 ≤ hi + 1 → sumR f lo hi = sumR f lo mid + sumR f (mid + 1) hi := by
  refine up_ind (lo := mid + 1) ?_ ?_
  · rw [sumR_nil (f := f) (lo := mid + 1) (by omega), Int.add_sub_cancel, Int.add_zero]
  · intro hi h2 ih
    rw [sumR_succ (by omega), ih, sumR_succ (lo := mid + 1) (by omega)]
    omega
theorem sumR_shift {f : Int → Int} {c lo hi : Int} : sumR (fun t => f (t + c)) lo hi = sumR f (lo + c) (hi + c) := by
  unfold sumR rngL
  rw [List.map_map, List.map_map, show hi + c + 1 - (lo + c) = hi + 1 - lo by omega]
  congr 1
  refine List.map_congr_left fun i _ => ?_
  show f (lo + (i : Int) + c) = f (lo + c + (i : Int))
  congr 1
  omega
theorem sumR_nonneg {f : Int → Int} {lo hi : Int} (h : ∀ t, 0 ≤ f t) : 0 ≤ sumR f lo hi := by
  unfold sumR
  generalize rngL lo (hi + 1) = l
  induction l with
  | nil => exact Int.le_refl 0
  | cons a l ih => rw [List.map_cons, List.sum_cons]; have := h a; omega
/-- how many of a range leave r by m -/
theorem sumR_res {m r lo : Int} (hm : 0 < m) : ∀ hi, lo ≤ hi + 1 → sumR (fun t => if m ∣ t - r then 1 else 0) lo hi = (hi - r) / m - (lo - 1 - r) / m := by
  refine up_ind (lo := lo) ?_ ?_
  · rw [sumR_nil (by omega), Int.sub_self]
  · intro hi h ih
    rw [sumR_succ h, ih]
    have e0 := Int.mul_ediv_add_emod (hi + 1 - r) m
    have e1 := Int.mul_ediv_add_emod (hi - r) m
    have b0 := Int.emod_nonneg (hi + 1 - r) (show m ≠ 0 by omega)
    have b1 := Int.emod_lt_of_pos (hi + 1 - r) hm
    have b2 := Int.emod_nonneg (hi - r) (show m ≠ 0 by omega)
    have b3 := Int.emod_lt_of_pos (hi - r) hm
    have dv : (m ∣ hi + 1 - r) ↔ (hi + 1 - r) % m = 0 := Int.dvd_iff_emod_eq_zero
    generalize (hi + 1 - r) % m = x at *
    generalize (hi - r) % m = y at *
    generalize (hi + 1 - r) / m = a at *
    generalize (hi - r) / m = b at *
    have k : m * (a - b) = 1 + y - x := by rw [Int.mul_sub]; omega
    split
    · rename_i q
      have q := dv.mp q
      subst q
      have : a - b = 1 := by
        by_cases z : a - b ≤ 0
        · have := Int.mul_nonpos_of_nonneg_of_nonpos (show 0 ≤ m by omega) z
          omega
        · by_cases z2 : 2 ≤ a - b
          · have := Int.mul_le_mul_of_nonneg_left z2 (show 0 ≤ m by omega)
            omega
          · omega
      omega
    · rename_i q
      have q : x ≠ 0 := fun z => q (dv.mpr z)
      have : a - b = 0 := by
        by_cases z : a - b ≤ -1
        · have := Int.mul_le_mul_of_nonneg_left z (show 0 ≤ m by omega)
          omega
        · by_cases z2 : 1 ≤ a - b
          · have := Int.mul_le_mul_of_nonneg_left z2 (show 0 ≤ m by omega)
            omega
          · omega
      omega
/-! terms (modulus, remainder, sign) -/
abbrev Tm : Type := Int × Int × Int
def ind (m o t : Int) : Int := if m ∣ t - o then 1 else 0
def sT (T : List Tm) (t : Int) : Int := (T.map fun x => x.2.2 * ind x.1 x.2.1 t).sum
theorem sT_nil (t : Int) : sT [] t = 0 := rfl
theorem sT_cons (x : Tm) (T : List Tm) (t : Int) : sT (x :: T) t = x.2.2 * ind x.1 x.2.1 t + sT T t := rfl
theorem sT_append (A B : List Tm) (t : Int) : sT (A ++ B) t = sT A t + sT B t := by
  unfold sT
  rw [List.map_append, List.sum_append]
/-- what the terms count in a range -/
theorem cT_ok {lo hi : Int} (h : lo ≤ hi + 1) : ∀ {T : List Tm}, (∀ x ∈ T, 0 < x.1) → (T.map fun x => x.2.2 * ((hi - x.2.1) / x.1 - (lo - 1 - x.2.1) / x.1)).sum = sumR (sT T) lo hi
  | [], _ => by
    have e : sT [] = fun _ => (0 : Int) := rfl
    rw [e, sumR_zero]
    rfl
  | x :: T, hT => by
    have e : sT (x :: T) = fun t => x.2.2 * ind x.1 x.2.1 t + sT T t := rfl
    rw [e, sumR_add (f := fun t => x.2.2 * ind x.1 x.2.1 t) (g := sT T), sumR_mul, List.map_cons, List.sum_cons, cT_ok h fun y hy => hT y (List.mem_cons_of_mem _ hy)]
    have := sumR_res (m := x.1) (r := x.2.1) (lo := lo) (hT x (by simp)) hi h
    rw [← this]
    rfl
/-- one more prime: the terms, and each with p and the other sign -/
theorem sT_step {p r : Int} {j : Tm → Int} {T : List Tm} {t : Int} (hj : ∀ x ∈ T, (x.1 * p ∣ t - j x ↔ x.1 ∣ t - x.2.1 ∧ p ∣ t - r)) : sT (T ++ T.map fun x => (x.1 * p, j x, -x.2.2)) t = sT T t * (if p ∣ t - r then 0 else 1) := by
  rw [sT_append]
  have key : ∀ T : List Tm, (∀ x ∈ T, (x.1 * p ∣ t - j x ↔ x.1 ∣ t - x.2.1 ∧ p ∣ t - r)) → sT (T.map fun x => (x.1 * p, j x, -x.2.2)) t = - (sT T t * (if p ∣ t - r then 1 else 0)) := by
    intro T
    induction T with
    | nil => intro _; rw [List.map_nil, sT_nil, Int.zero_mul]; rfl
    | cons x T ih =>
      intro h
      rw [List.map_cons, sT_cons, sT_cons, ih fun y hy => h y (List.mem_cons_of_mem _ hy), Int.add_mul, Int.neg_add]
      congr 1
      show -x.2.2 * ind (x.1 * p) (j x) t = _
      have hx := h x (by simp)
      unfold ind
      by_cases q : p ∣ t - r
      · rw [if_pos q, Int.mul_one]
        by_cases q2 : x.1 ∣ t - x.2.1
        · rw [if_pos q2, if_pos (hx.mpr ⟨q2, q⟩), Int.mul_one, Int.mul_one]
        · rw [if_neg q2, if_neg (fun z => q2 (hx.mp z).1), Int.mul_zero, Int.mul_zero]; rfl
      · rw [if_neg q, if_neg (fun z => q (hx.mp z).2), Int.mul_zero, Int.mul_zero]; rfl
  rw [key T hj]
  split <;> simp <;> omega
end Nt

set_option maxHeartbeats 2000000
namespace Mi
open PySem L2 Mw
def m_common_divisor (one : Int) (other : Int) : Option Int :=
  (oP2 (some (if one < 0 then -one else one)) (some (if other < 0 then -other else other))).bind fun ((one, other) : Int × Int) =>
  (oWhile (γ := Int × Int) (fun ((one, other) : Int × Int) => (some (decide (0 < other)))) (fun ((one, other) : Int × Int) =>
      (oP2 (some other) (o2 modG (some one) (some other))).bind fun ((one, other) : Int × Int) =>
    some (one, other)) (other.natAbs + 1) (one, other)).bind fun ((one, other) : Int × Int) =>
  (some one).bind fun rv => some rv
def m_divisor_of (values : (List Int)) : Option Int :=
  (some 0).bind fun (found : Int) =>
  (some values).bind fun (l_ : List Int) => (oFold (γ := Int) (fun (value : Int) ((found) : Int) =>
      (m_common_divisor found value).bind fun (found : Int) =>
    some (found)) l_ (found)).bind fun ((found) : Int) =>
  (some found).bind fun rv => some rv
def m_plus (one : (List Int)) (other : (List Int)) : Option (List Int) :=
  (o1 (oLc yes (fun (k_ : Int) => (o2 addG (o2 ixG (some one) (some k_)) (o2 ixG (some other) (some k_))))) (o1 rngG (some (one.length : Int)))).bind fun rv => some rv
def m_power (prime : Int) (size : Int) : Option Int :=
  (oIf (some (decide (size = 2))) (o2 mulG (some prime) (some prime)) (o2 mulG (o2 mulG (some prime) (some prime)) (some prime))).bind fun rv => some rv
def m_remainders_by (place : (List Int)) (prime : Int) : Option (List Int) :=
  (o1 (oLc yes (fun (coordinate : Int) => (o2 modG (some coordinate) (some prime)))) (some place)).bind fun rv => some rv
def m_numbered (size : Int) (prime : Int) (k_ : Int) : Option (List Int) :=
  (o1 szG (oCons (o2 modG (o2 divG (some k_) (some prime)) (some prime)) (oCons (o2 modG (some k_) (some prime)) (some [])))).bind fun (found : (List Int)) =>
  (some (decide (size = 3))).bind fun b => if b = true then
    (o2 catG (o1 szG (oCons (o2 divG (some k_) (o2 mulG (some prime) (some prime))) (some []))) (some found)).bind fun rv => some rv
  else
    (some found).bind fun rv => some rv
def m_all_remainders (size : Int) (prime : Int) : Option (List (List Int)) :=
  (o1 (oLc yes (fun (k_ : Int) => (m_numbered size prime k_))) (o1 rngG (m_power prime size))).bind fun rv => some rv
def m_all_seen (places : (List (List Int))) (shift : (List Int)) : Option Bool :=
  (some places).bind fun (l_ : List (List Int)) => (oLoop (γ := Unit) (ρ := Bool) (fun (place : (List Int)) (() : Unit) =>
      (o2 neG (o1 m_divisor_of (m_plus place shift)) (some 1)).bind fun b => if b = true then
      (some false).bind fun rv => some (.ret rv)
    else
      some (.go ())) l_ ()).bind fun o_ => match o_ with
  | .ret r_ => some r_
  | .nx (() : Unit) =>
    (some true).bind fun rv => some rv
def m_is_shown (seen : (List (List Int))) (hidden : (List (List Int))) (shift : (List Int)) : Option Bool :=
  (oNot (m_all_seen seen shift)).bind fun b => if b = true then
    (some false).bind fun rv => some rv
  else
    (some hidden).bind fun (l_ : List (List Int)) => (oLoop (γ := Unit) (ρ := Bool) (fun (place : (List Int)) (() : Unit) =>
        (o2 eqG (o1 m_divisor_of (m_plus place shift)) (some 1)).bind fun b => if b = true then
        (some false).bind fun rv => some (.ret rv)
      else
        some (.go ())) l_ ()).bind fun o_ => match o_ with
    | .ret r_ => some r_
    | .nx (() : Unit) =>
      (some true).bind fun rv => some rv
def m_Picture_size (self : (Int × (List (List Int × PySem.Str)) × (List (List Int)) × (List (List Int)))) : Option Int :=
  (some self.1).bind fun rv => some rv
def m_Picture_seen (self : (Int × (List (List Int × PySem.Str)) × (List (List Int)) × (List (List Int)))) : Option (List (List Int)) :=
  (some self.2.2.1).bind fun rv => some rv
def m_Picture_hidden (self : (Int × (List (List Int × PySem.Str)) × (List (List Int)) × (List (List Int)))) : Option (List (List Int)) :=
  (some self.2.2.2).bind fun rv => some rv
def m_shows (picture : (Int × (List (List Int × PySem.Str)) × (List (List Int)) × (List (List Int)))) (shift : (List Int)) : Option (Except Er Bool) :=
  (o2 neG (some (shift.length : Int)) (o1 m_Picture_size (some picture))).bind fun b => if b = true then
    (some shift).bind fun p_ => some (.error ⟨"InvalidPlace", .tup p_⟩)
  else
    (o3 m_is_shown (o1 m_Picture_seen (some picture)) (o1 m_Picture_hidden (some picture)) (some shift)).bind fun rv => some (.ok rv)
def m_check_prime (size : Int) (prime : Int) : Option (Except Er Unit) :=
  (oIf (some (decide (size = 2))) (some [2, 3, 5, 7]) (some [2, 3])).bind fun (primes : (List Int)) =>
  (o2 notInG (some prime) (some primes)).bind fun b => if b = true then
    (some prime).bind fun p_ => some (.error ⟨"InvalidNumber", .int p_⟩)
  else
    some (.ok ())
def m_classes (picture : (Int × (List (List Int × PySem.Str)) × (List (List Int)) × (List (List Int)))) (prime : Int) : Option (Except Er (List ((List Int) × (Option (List Int))))) :=
  (o2 m_check_prime (o1 m_Picture_size (some picture)) (some prime)).bind fun r_ => match r_ with
  | .error er => some (.error er)
  | .ok _ =>
  (some []).bind fun (first : (List (List Int × (List Int)))) =>
  (o1 m_Picture_seen (some picture)).bind fun (l_ : List (List Int)) => (oFold (γ := (List (List Int × (List Int)))) (fun (place : (List Int)) ((first) : (List (List Int × (List Int)))) =>
      (m_remainders_by place prime).bind fun ix => (some place).bind fun val => (dSetdG first ix val).bind fun (first : (List (List Int × (List Int)))) =>
    some (first)) l_ (first)).bind fun ((first) : (List (List Int × (List Int)))) =>
  (o1 (oLc yes (fun (one : (List Int)) => (oP2 (some one) (o2 dGet1G (some first) (some one))))) (o2 m_all_remainders (o1 m_Picture_size (some picture)) (some prime))).bind fun rv => some (.ok rv)
def m_judge_barring (picture : (Int × (List (List Int × PySem.Str)) × (List (List Int)) × (List (List Int)))) (prime : Int) (told : (List (List Int))) : Option (Except Er Bool) :=
  (o2 m_check_prime (o1 m_Picture_size (some picture)) (some prime)).bind fun r_ => match r_ with
  | .error er => some (.error er)
  | .ok _ =>
  (o2 neG (some (told.length : Int)) (o2 m_power (some prime) (o1 m_Picture_size (some picture)))).bind fun b => if b = true then
    (some false).bind fun rv => some (.ok rv)
  else
    (Option.map dOf (o1 (lim 16000000) (o1 (oLc yes (fun (place : (List Int)) => (oP2 (some place) (some true)))) (o1 m_Picture_seen (some picture))))).bind fun (seen : (List (List Int × Bool))) =>
    (some told).bind fun (l_ : List (List Int)) => (oLoop (γ := Unit) (ρ := (Except Er Bool)) (fun (place : (List Int)) (() : Unit) =>
        (o2 dNotInG (some place) (some seen)).bind fun b => if b = true then
        (some false).bind fun rv => some (.ret (.ok rv))
      else
        some (.go ())) l_ ()).bind fun o_ => match o_ with
    | .ret r_ => some r_
    | .nx (() : Unit) =>
      (o2 eqG (Option.map (fun l => ((dd l).length : Int)) (o1 (lim 63) (o1 (oLc yes (fun (place : (List Int)) => (m_remainders_by place prime))) (some told)))) (some (told.length : Int))).bind fun rv => some (.ok rv)
def m_Picture___init__ (self : (Option Int × Option (List (List Int × PySem.Str)) × Option (List (List Int)) × Option (List (List Int)))) (size : Int) (seen : (List (List Int))) (hidden : (List (List Int))) : Option (Unit × (Option Int × Option (List (List Int × PySem.Str)) × Option (List (List Int)) × Option (List (List Int)))) :=
  (o2 notInG (some size) (some [2, 3])).bind fun b => if b = true then
    none
  else
    (some []).bind fun (words : (List (List Int × PySem.Str))) =>
    (some [(("seen" : PySem.Str), seen), (("hidden" : PySem.Str), hidden)]).bind fun (l_ : List (PySem.Str × (List (List Int)))) => (oFold (γ := (List (List Int × PySem.Str))) (fun ((word, places) : PySem.Str × (List (List Int))) ((words) : (List (List Int × PySem.Str))) =>
        (some places).bind fun (l_ : List (List Int)) => (oFold (γ := (List (List Int × PySem.Str))) (fun (place : (List Int)) ((words) : (List (List Int × PySem.Str))) =>
          (some (!decide ((place.length : Int) = size))).bind fun b => if b = true then
          none
        else
          (o2 dInG (some place) (some words)).bind fun b => if b = true then
            none
          else
            (some word).bind fun val => (some place).bind fun ix => (dPutG words ix val).bind fun (words : (List (List Int × PySem.Str))) =>
            some (words)) l_ (words)).bind fun ((words) : (List (List Int × PySem.Str))) =>
      some (words)) l_ (words)).bind fun ((words) : (List (List Int × PySem.Str))) =>
    (some size).bind fun val => (put4_0 self val).bind fun (self : (Option Int × Option (List (List Int × PySem.Str)) × Option (List (List Int)) × Option (List (List Int)))) =>
    (some words).bind fun val => (put4_1 self val).bind fun (self : (Option Int × Option (List (List Int × PySem.Str)) × Option (List (List Int)) × Option (List (List Int)))) =>
    (o1 sortG (some seen)).bind fun val => (put4_2 self val).bind fun (self : (Option Int × Option (List (List Int × PySem.Str)) × Option (List (List Int)) × Option (List (List Int)))) =>
    (o1 sortG (some hidden)).bind fun val => (put4_3 self val).bind fun (self : (Option Int × Option (List (List Int × PySem.Str)) × Option (List (List Int)) × Option (List (List Int)))) =>
    some ((), self)
def m_well (script : (List Int)) (k_ : Int) : Option (List Int) :=
  (oIf (some (decide (k_ < (script.length : Int)))) (o2 ixG (some script) (some k_)) (some 0)).bind fun (cell : Int) =>
  (some (decide (((10 : Int) ^ 18) ≤ cell))).bind fun b => if b = true then
    (some [(cell - ((10 : Int) ^ 18)), (-1)]).bind fun rv => some rv
  else
    (o1 szG (oCons (o2 addG (o2 addG (o2 modG (some cell) (some ((10 : Int) ^ 18))) (o2 mulG (some 1000003) (some k_))) (some 1)) (oCons (some 0) (some [])))).bind fun rv => some rv
def m_draw (well_here : (List Int)) (many : Int) : Option (Int × (List Int)) :=
  (o2 ltG (o2 ixG (some well_here) (some 1)) (some 0)).bind fun b => if b = true then
    (o2 modG (o1 some (o2 ixG (some well_here) (some 0))) (some many)).bind fun (drawn : Int) =>
    (o2 divG (o1 some (o2 ixG (some well_here) (some 0))) (some many)).bind fun val => (some 0).bind fun ix => (setG well_here ix val).bind fun (well_here : (List Int)) =>
    (some drawn).bind fun rv => some (rv, well_here)
  else
    (o2 addG (o2 ixG (some well_here) (some 1)) (some 1)).bind fun val => (some 1).bind fun ix => (setG well_here ix val).bind fun (well_here : (List Int)) =>
    (o2 modG (o1 some (o2 addG (o2 addG (o2 mulG (o2 ixG (some well_here) (some 0)) (some 6364136223)) (o2 mulG (o2 ixG (some well_here) (some 1)) (some 1442695041))) (some 97))) (some (((10 : Int) ^ 19) + 51))).bind fun (mixed : Int) =>
    (o2 modG (o1 some (o2 addG (o2 mulG (some mixed) (some mixed)) (o2 mulG (o2 ixG (some well_here) (some 1)) (some 40503)))) (some (((10 : Int) ^ 21) + 117))).bind fun (mixed : Int) =>
    (o2 modG (o1 some (o2 addG (o2 divG (o2 mulG (some mixed) (some mixed)) (some ((10 : Int) ^ 9))) (o2 mulG (o2 ixG (some well_here) (some 1)) (o2 ixG (some well_here) (some 1))))) (some (((10 : Int) ^ 24) + 7))).bind fun (mixed : Int) =>
    (o2 modG (o2 divG (o1 some (o2 mulG (some mixed) (o2 divG (some mixed) (some 1009)))) (some ((10 : Int) ^ 7))) (some many)).bind fun rv => some (rv, well_here)
def m_spot (well_here : (List Int)) (size : Int) (reach : Int) : Option ((List Int) × (List Int)) :=
  ((o1 rngG (some size)).bind fun l => sLc (fun (turn : Int) => fun well_here => (s2 (fun a b s => sK s (subG a b)) (s1 (fun a0 s => m_draw s a0) (sP (o2 addG (o2 mulG (some 2) (some reach)) (some 1)) well_here)) fun well_here => (sP (some reach) well_here))) l well_here)
def m_refused_shift (scene : (Int × (List (List Int × PySem.Str)) × (List (List Int)) × (List (List Int)))) (offset : (List Int)) : Option PyData :=
  (some PyData.none).bind fun (value : PyData) =>
  (((m_shows scene offset).bind fun r_ => match r_ with
    | .error er => some (.error (er, (value)))
    | .ok _ =>
    some (.ok (value)) : Option (Except (Er × (PyData)) (PyData))).bind fun r_ => match r_ with
    | .ok st_ => some st_
    | .error (e_, (value)) => if subE e_.cls "InvalidPlace" = true then ((some (PyData.list [(payD e_.pay), (PyData.bool (subE e_.cls "PostError")), (PyData.bool (subE e_.cls "InvalidNumber"))])).bind fun (value : PyData) =>
        some (value)) else none).bind fun ((value) : PyData) =>
  (some value).bind fun rv => some rv
def m_refused_prime (scene : (Int × (List (List Int × PySem.Str)) × (List (List Int)) × (List (List Int)))) (prime : Int) (told : (Option (List (List Int)))) : Option PyData :=
  (some PyData.none).bind fun (value : PyData) =>
  (((some told.isNone).bind fun b => if b = true then
      (m_classes scene prime).bind fun r_ => match r_ with
      | .error er => some (.error (er, (value)))
      | .ok _ =>
      some (.ok (value))
    else
      (o3 m_judge_barring (some scene) (some prime) told).bind fun r_ => match r_ with
      | .error er => some (.error (er, (value)))
      | .ok _ =>
      some (.ok (value)) : Option (Except (Er × (PyData)) (PyData))).bind fun r_ => match r_ with
    | .ok st_ => some st_
    | .error (e_, (value)) => if subE e_.cls "InvalidNumber" = true then ((some (PyData.list [(payD e_.pay), (PyData.bool (subE e_.cls "PostError")), (PyData.bool (subE e_.cls "InvalidPlace"))])).bind fun (value : PyData) =>
          some (value)) else none).bind fun ((value) : PyData) =>
  (some value).bind fun rv => some rv
def m_primes_right (well_here : (List Int)) (scene : (Int × (List (List Int × PySem.Str)) × (List (List Int)) × (List (List Int)))) (size : Int) : Option (Bool × (List Int)) :=
  (o2 ixG (some [[2, 3, 5, 7], [2, 3]]) (some (size - 2))).bind fun (good : (List Int)) =>
  (o2 catG (o1 (oLc yes (fun (number : Int) => (some (number - 3)))) (o1 rngG (some 16))) (some [25, 49])).bind fun (asked : (List Int)) =>
  (s2 (fun a b s => sK s (catG a b)) (sP (some asked) well_here) fun well_here => (s1 (fun a s => sK s (szG a)) (sCons (s2 (fun a b s => sK s (addG a b)) (s1 (fun a0 s => m_draw s a0) (sP (some ((10 : Int) ^ 59)) well_here)) fun well_here => (sP (some 13) well_here)) fun well_here => (sCons (s2 (fun a b s => sK s (subG a b)) (sP (some 0) well_here) fun well_here => (s1 (fun a0 s => m_draw s a0) (sP (some ((10 : Int) ^ 59)) well_here))) fun well_here => (some ([], well_here)))))).bind fun ((asked, well_here) : (List Int) × (List Int)) =>
  (some asked).bind fun (l_ : List Int) => (oLoop (γ := Unit) (ρ := (Bool × (List Int))) (fun (number : Int) (() : Unit) =>
      (oIf (o2 inDG (some number) (some good)) (some PyData.none) (some (PyData.list [(PyData.int number), (PyData.bool true), (PyData.bool false)]))).bind fun (due : PyData) =>
    (o1 szG (oCons (some none) (oCons (some (some [])) (oCons (Option.map some (o1 m_Picture_seen (some scene))) (some []))))).bind fun (l_ : List (Option (List (List Int)))) => (oLoop (γ := Unit) (ρ := (Bool × (List Int))) (fun (told : (Option (List (List Int)))) (() : Unit) =>
        (o2 neU (m_refused_prime scene number told) (some due)).bind fun b => if b = true then
        (some false).bind fun rv => some (.ret (rv, well_here))
      else
        some (.go ())) l_ ()).bind fun o_ => match o_ with
    | .ret r_ => some (.ret r_)
    | .nx (() : Unit) =>
      (oOr (o2 neG (o1 lenG ((m_classes scene 2).bind okG)) (o2 ixG (some [4, 8]) (some (size - 2)))) (o2 neG ((m_judge_barring scene 3 []).bind okG) (some false))).bind fun b => if b = true then
      (some false).bind fun rv => some (.ret (rv, well_here))
    else
      some (.go ())) l_ ()).bind fun o_ => match o_ with
  | .ret r_ => some r_
  | .nx (() : Unit) =>
    (some true).bind fun rv => some (rv, well_here)
def m_case (well_here : (List Int)) : Option (Bool × (List Int)) :=
  (s2 (fun a b s => sK s (addG a b)) (sP (some 2) well_here) fun well_here => (s1 (fun a0 s => m_draw s a0) (sP (some 2) well_here))).bind fun ((size, well_here) : Int × (List Int)) =>
  (some []).bind fun (spots : (List (List Int))) =>
  (s1 (fun a s => sK s (rngG a)) (s1 (fun a0 s => m_draw s a0) (sP (some 6) well_here))).bind fun ((l_, well_here) : List Int × (List Int)) => (oFold (γ := (List Int) × (List (List Int))) (fun (turn : Int) ((well_here, spots) : (List Int) × (List (List Int))) =>
      (s2 (fun a0 a1 s => m_spot s a0 a1) (sP (some size) well_here) (fun well_here => (sP (some 40) well_here))).bind fun ((spot_here, well_here) : (List Int) × (List Int)) =>
    (o2 notInDG (some spot_here) (some spots)).bind fun b => if b = true then
      (some spot_here).bind fun val => (appG spots val).bind fun (spots : (List (List Int))) =>
      some (well_here, spots)
    else
      some (well_here, spots)) l_ (well_here, spots)).bind fun ((well_here, spots) : (List Int) × (List (List Int))) =>
  (o3 (fun a0 a1 a2 => (m_Picture___init__ (none, none, none, none) a0 a1 a2).bind fun r => finO4 r.2) (some size) (oCut (some spots) (some none) (some (some 4))) (oCut (some spots) (some (some 4)) (some none))).bind fun (scene : (Int × (List (List Int × PySem.Str)) × (List (List Int)) × (List (List Int)))) =>
  (sC (sGC (sP (some scene) well_here) fun well_here => (sGC (s2 (fun a0 a1 s => m_spot s a0 a1) (sP (some size) well_here) (fun well_here => (sP (some 1) well_here))) fun well_here => (some ((), well_here)))) fun a_ well_here => sK well_here ((m_shows a_.1 a_.2.1).bind okG)).bind fun ((first, well_here) : Bool × (List Int)) =>
  (o1 rngG (some 7)).bind fun (l_ : List Int) => (oLoop (γ := (List Int)) (ρ := (Bool × (List Int))) (fun (many : Int) ((well_here) : (List Int)) =>
      (s2 (fun a0 a1 s => m_spot s a0 a1) (sP (some many) well_here) (fun well_here => (s2 (fun a b s => sK s (ixG a b)) (sP (some [1, 40, ((10 : Int) ^ 59)]) well_here) fun well_here => (s1 (fun a0 s => m_draw s a0) (sP (some 3) well_here))))).bind fun ((offset, well_here) : (List Int) × (List Int)) =>
    (oIf (some (decide (many = size))) (some PyData.none) (some (PyData.list [((fun (l : (List Int)) => PyData.tuple (l.map PyData.int)) offset), (PyData.bool true), (PyData.bool false)]))).bind fun (due : PyData) =>
    (o2 neU (m_refused_shift scene offset) (some due)).bind fun b => if b = true then
      (some false).bind fun rv => some (.ret (rv, well_here))
    else
      (sNot (Option.map (fun r => (true, r.2)) (sC (some ((), well_here)) fun a well_here => sC (sGC (s2 (fun a0 a1 s => m_spot s a0 a1) (sP (some size) well_here) (fun well_here => (sP (some ((10 : Int) ^ 59)) well_here))) fun well_here => (sGC (sP (some scene) well_here) fun well_here => (some ((), well_here)))) fun b well_here => sK well_here ((m_shows b.2.1 b.1).bind okG)))).bind fun ((b, well_here) : Bool × (List Int)) => if b = true then
        (some false).bind fun rv => some (.ret (rv, well_here))
      else
        some (.go (well_here))) l_ (well_here)).bind fun o_ => match o_ with
  | .ret r_ => some r_
  | .nx ((well_here) : (List Int)) =>
    (sAnd (sP (some true) well_here) fun well_here => (s2 (fun a0 a1 s => m_primes_right s a0 a1) (sP (some scene) well_here) (fun well_here => (sP (some size) well_here))))
def m_law (script : (List Int)) : Option Bool :=
  (o1 rngG (o2 maxG (some 1) (o2 minG (some (script.length : Int)) (some 4)))).bind fun (l_ : List Int) => (oLoop (γ := Unit) (ρ := Bool) (fun (k_ : Int) (() : Unit) =>
      (oNot ((m_well script k_).bind fun t => (m_case t).bind fun r => some r.1)).bind fun b => if b = true then
      (some false).bind fun rv => some (.ret rv)
    else
      some (.go ())) l_ ()).bind fun o_ => match o_ with
  | .ret r_ => some r_
  | .nx (() : Unit) =>
    (some true).bind fun rv => some rv
end Mi

set_option maxHeartbeats 2000000
namespace Pl
open PySem Mw Mi
theorem gcdL_eq {l m : List Int} (h : ∀ d : Int, (∀ v ∈ l, d ∣ v) ↔ ∀ v ∈ m, d ∣ v) : gcdL l = gcdL m := by
  apply Nat.dvd_antisymm
  · exact dvd_gcdL ((h _).mp fun v hv => gcdL_dvd hv)
  · exact dvd_gcdL ((h _).mpr fun v hv => gcdL_dvd hv)
/-! the draws -/
def Ok (c : Nat) (s : List Int) : Prop := ∃ a b, s = [a, b] ∧ (b < 0 ∨ (0 ≤ b ∧ b ≤ (c : Int)))
theorem Ok.mono {c d : Nat} {s : List Int} (h : Ok c s) (e : c ≤ d) : Ok d s := by
  obtain ⟨a, b, rfl, h⟩ := h
  exact ⟨a, b, rfl, by omega⟩
theorem draw_ok {c : Nat} {s : List Int} (h : Ok c s) (hc : c ≤ 2 ^ 50) {m : Int} (h0 : 0 < m) (h1 : m < 2 ^ 256) : ∃ x s', m_draw s m = some (x, s') ∧ Ok (c + 1) s' ∧ 0 ≤ x ∧ x < m := by
  obtain ⟨a, b, rfl, hb⟩ := h
  unfold m_draw
  simp only [o2_s, o1_s, ix0, ix1, ltG_s, bind_s, addG_s]
  by_cases ha : b < 0
  · simp only [decide_eq_true ha, if_true, modG_s h0, divG_s h0 h1 (by decide), bind_s, set0]
    exact ⟨_, _, rfl, ⟨_, _, rfl, .inl ha⟩, Int.emod_nonneg _ (by omega), Int.emod_lt_of_pos _ h0⟩
  · have p1 : (0 : Int) < 10 ^ 19 + 51 := by decide
    have p2 : (0 : Int) < 10 ^ 21 + 117 := by decide
    have p3 : (0 : Int) < 10 ^ 24 + 7 := by decide
    simp only [decide_eq_false ha, Bool.false_eq_true, if_false, set1, bind_s, ix0, ix1, o2_s, o1_s, addG_s, mulG_r (a := a) (b := 6364136223) (by decide), mulG_r (a := b + 1) (b := 1442695041) (by decide), modG_s p1]
    generalize hx : (a * 6364136223 + (b + 1) * 1442695041 + 97) % (10 ^ 19 + 51) = x
    have x0 : 0 ≤ x := by rw [← hx]; exact Int.emod_nonneg _ (by omega)
    have x1 : x < 10 ^ 19 + 51 := by rw [← hx]; exact Int.emod_lt_of_pos _ p1
    simp only [mulG_l (a := x) (b := x) (by omega), mulG_r (a := b + 1) (b := 40503) (by decide), o2_s, addG_s, o1_s, modG_s p2, bind_s]
    generalize hy : (x * x + (b + 1) * 40503) % (10 ^ 21 + 117) = y
    have y0 : 0 ≤ y := by rw [← hy]; exact Int.emod_nonneg _ (by omega)
    have y1 : y < 10 ^ 21 + 117 := by rw [← hy]; exact Int.emod_lt_of_pos _ p2
    simp only [mulG_b (a := y) (b := y) (m := 80) (n := 80) (by omega) (by omega), mulG_l (a := b + 1) (b := b + 1) (by omega), divG_s (b := 10 ^ 9) (n := 40) (by decide) (by decide) (by decide), o2_s, addG_s, o1_s, modG_s p3, bind_s]
    generalize hz : (y * y / 10 ^ 9 + (b + 1) * (b + 1)) % (10 ^ 24 + 7) = z
    have z0 : 0 ≤ z := by rw [← hz]; exact Int.emod_nonneg _ (by omega)
    have z1 : z < 10 ^ 24 + 7 := by rw [← hz]; exact Int.emod_lt_of_pos _ p3
    simp only [divG_s (a := z) (b := 1009) (n := 10) (by decide) (by decide) (by decide), o2_s, mulG_b (a := z) (b := z / 1009) (m := 90) (n := 90) (by omega) (by omega), o1_s, divG_s (b := 10 ^ 7) (n := 40) (by decide) (by decide) (by decide), modG_s h0, bind_s]
    exact ⟨_, _, rfl, ⟨_, _, rfl, .inr ⟨by omega, by omega⟩⟩, Int.emod_nonneg _ (by omega), Int.emod_lt_of_pos _ h0⟩
theorem well_ok {s : List Int} {k : Int} (hk : 0 ≤ k) : ∃ t, m_well s k = some t ∧ Ok 0 t := by
  have e : ∃ x, oIf (some (decide (k < (s.length : Int)))) (o2 ixG (some s) (some k)) (some 0) = some x := by
    by_cases q : k < (s.length : Int)
    · rw [decide_eq_true q, oIf_t, o2_s, ixG_at hk q]
      exact ⟨_, rfl⟩
    · rw [decide_eq_false q, oIf_f]
      exact ⟨_, rfl⟩
  obtain ⟨x, e⟩ := e
  unfold m_well
  rw [e, bind_s, bind_s]
  by_cases q : (10 : Int) ^ 18 ≤ x
  · rw [decide_eq_true q, if_pos rfl]
    exact ⟨_, rfl, _, _, rfl, .inl (by decide)⟩
  · rw [decide_eq_false q, if_neg Bool.false_ne_true]
    simp only [o2_s, mulG_l (a := 1000003) (b := k) (by decide), modG_s (b := (10 : Int) ^ 18) (by decide), addG_s, oCons_s, o1_s]
    rw [szG_s (by simp)]
    exact ⟨_, rfl, _, _, rfl, .inr ⟨by decide, by decide⟩⟩
/-! lists by index -/
theorem lc_rngf {t : Int → Option Bool} {f : Int → Option β} {p : Nat → Bool} {h : Nat → β} {n : Nat} (hn : n ≤ 16000000) (ht : ∀ i, i < n → t (i : Int) = some (p i)) (hf : ∀ i, i < n → f (i : Int) = some (h i)) : oLc t f (rngL 0 n) = some (((List.range n).filter p).map h) := by
  have e : rngL 0 n = (List.range n).map fun (i : Nat) => (i : Int) := by
    unfold rngL
    have e1 : ((n : Int) - 0).toNat = n := by omega
    rw [e1]
    exact List.map_congr_left fun i _ => Int.zero_add _
  have q : ∀ l : List Nat, (∀ i ∈ l, i < n) → oMap t f (l.map fun (i : Nat) => (i : Int)) = some ((l.filter p).map h) := by
    intro l
    induction l with
    | nil => intro _; rfl
    | cons i l ih =>
      intro hl
      have ih := ih fun j hj => hl j (List.mem_cons_of_mem _ hj)
      rw [List.map_cons]
      cases e : p i
      · simp only [oMap, bind_s, ht i (hl i List.mem_cons_self), e, Bool.false_eq_true, if_false, ih, List.filter_cons]
      · simp only [oMap, bind_s, ht i (hl i List.mem_cons_self), e, if_true, hf i (hl i List.mem_cons_self), ih, List.filter_cons, List.map_cons]
  unfold oLc
  rw [if_pos (by rw [rngL_len]; omega), e]
  exact q _ fun i hi => List.mem_range.mp hi
/-- the items whose place in the row p takes -/
def sel (l : List (List Int)) (p : Nat → Bool) : List (List Int) := ((List.range l.length).filter p).map fun i => l.getD i []
theorem getD_at {l : List (List Int)} {i : Nat} (h : i < l.length) : l.getD i [] = l[i] := by simp [h]
theorem mem_sel {l : List (List Int)} {p : Nat → Bool} {x : List Int} : x ∈ sel l p ↔ ∃ i, ∃ h : i < l.length, p i = true ∧ l[i] = x := by
  unfold sel
  constructor
  · intro h
    obtain ⟨i, h1, h2⟩ := List.mem_map.mp h
    obtain ⟨h1, h3⟩ := List.mem_filter.mp h1
    have h1 := List.mem_range.mp h1
    exact ⟨i, h1, h3, by rw [← h2, getD_at h1]⟩
  · rintro ⟨i, h1, h2, h3⟩
    exact List.mem_map.mpr ⟨i, List.mem_filter.mpr ⟨List.mem_range.mpr h1, h2⟩, by rw [getD_at h1, h3]⟩
theorem sel_len (l : List (List Int)) (p : Nat → Bool) : (sel l p).length ≤ l.length := by
  unfold sel
  rw [List.length_map]
  exact Nat.le_trans (List.length_filter_le _ _) (by simp)
theorem nd_inj {l : List (List Int)} (h : l.Nodup) {i j : Nat} (hi : i < l.length) (hj : j < l.length) (e : l[i] = l[j]) : i = j := by
  rcases Nat.lt_trichotomy i j with q | q | q
  · exact absurd e (List.pairwise_iff_getElem.mp h i j hi hj q)
  · exact q
  · exact absurd e.symm (List.pairwise_iff_getElem.mp h j i hj hi q)
theorem nd_map {f : Nat → List Int} : ∀ {l : List Nat}, l.Nodup → (∀ i ∈ l, ∀ j ∈ l, f i = f j → i = j) → (l.map f).Nodup
  | [], _, _ => List.nodup_nil
  | a :: l, h, q => by
    rw [List.map_cons, List.nodup_cons]
    obtain ⟨h1, h2⟩ := List.nodup_cons.mp h
    refine ⟨fun hm => ?_, nd_map h2 fun i hi j hj => q i (List.mem_cons_of_mem _ hi) j (List.mem_cons_of_mem _ hj)⟩
    obtain ⟨b, hb, e⟩ := List.mem_map.mp hm
    have := q b (List.mem_cons_of_mem _ hb) a List.mem_cons_self e
    exact h1 (this ▸ hb)
theorem nd_filter {p : Nat → Bool} : ∀ {l : List Nat}, l.Nodup → (l.filter p).Nodup := fun h => List.Pairwise.filter p h
theorem sel_nd {l : List (List Int)} (h : l.Nodup) (p : Nat → Bool) : (sel l p).Nodup := by
  refine nd_map (nd_filter List.nodup_range) fun i hi j hj e => ?_
  have hi := List.mem_range.mp (List.mem_filter.mp hi).1
  have hj := List.mem_range.mp (List.mem_filter.mp hj).1
  rw [getD_at hi, getD_at hj] at e
  exact nd_inj h hi hj e
theorem sel_two {l : List (List Int)} (h : l.Nodup) {p q : Nat → Bool} (hpq : ∀ i, p i = true → q i = true → False) : (sel l p ++ sel l q).Nodup := by
  rw [List.nodup_append]
  refine ⟨sel_nd h p, sel_nd h q, fun x hx y hy e => ?_⟩
  subst e
  obtain ⟨i, hi, p1, e1⟩ := mem_sel.mp hx
  obtain ⟨j, hj, p2, e2⟩ := mem_sel.mp hy
  have := nd_inj h hi hj (e1.trans e2.symm)
  subst this
  exact hpq i p1 p2
/-! sorted, dicts -/
theorem srt_all (l : List (List Int)) (f : List Int → Bool) : (srtT l).all f = l.all f := by
  refine Bool.eq_iff_iff.mpr ?_
  rw [List.all_eq_true, List.all_eq_true]
  exact ⟨fun h x hx => h x ((srtT_perm l).mem_iff.mpr hx), fun h x hx => h x ((srtT_perm l).mem_iff.mp hx)⟩
theorem sortG_s {l : List (List Int)} {n : Nat} (h : ∀ p ∈ l, p.length = n) (h0 : 0 < n) (hl : l.length ≤ 16000000) : sortG l = some (srtT l) := if_pos ⟨List.all_eq_true.mpr fun p hp => by
  have := h p hp
  cases p with
  | nil => simp at this; omega
  | cons a p => rfl, hl⟩
theorem dGet_none {β : Type} {ds : List (List Int × β)} {k : List Int} : dGet ds k = none ↔ ∀ d ∈ ds, d.1 ≠ k := by
  unfold dGet
  rw [Option.map_eq_none_iff, List.find?_eq_none]
  exact ⟨fun h d hd e => h d hd (decide_eq_true e), fun h d hd e => h d hd (of_decide_eq_true e)⟩
theorem dInG_no {β : Type} {ds : List (List Int × β)} {k : List Int} (h : ∀ d ∈ ds, d.1 ≠ k) : dInG k ds = some false := by
  unfold dInG
  rw [dGet_none.mpr h]
  rfl
theorem dPutG_new {β : Type} {ds : List (List Int × β)} {k : List Int} {x : β} (h : ∀ d ∈ ds, d.1 ≠ k) (hl : ds.length ≤ 16000000) : dPutG ds k x = some (ds ++ [(k, x)]) := by
  unfold dPutG dPut
  rw [if_pos hl, if_neg]
  intro e
  obtain ⟨d, hd, e⟩ := List.any_eq_true.mp e
  exact h d hd (of_decide_eq_true e)
theorem fill_ok {β : Type} {f : List Int → List (List Int × β) → Option (List (List Int × β))} {w : β} {n : Nat} (hf : ∀ p ds, p.length = n → (∀ d ∈ ds, d.1 ≠ p) → ds.length ≤ 16000000 → f p ds = some (ds ++ [(p, w)])) : ∀ (l : List (List Int)) (ds : List (List Int × β)), (∀ p ∈ l, p.length = n) → l.Nodup → (∀ p ∈ l, ∀ d ∈ ds, d.1 ≠ p) → ds.length + l.length ≤ 16000000 → oFold f l ds = some (ds ++ l.map fun p => (p, w))
  | [], ds, _, _, _, _ => by rw [fold_nil]; simp
  | a :: l, ds, h1, h2, h3, h4 => by
    rw [List.length_cons] at h4
    obtain ⟨n1, n2⟩ := List.nodup_cons.mp h2
    rw [fold_cons, hf a ds (h1 a List.mem_cons_self) (h3 a List.mem_cons_self) (by omega), bind_s, fill_ok hf l _ (fun p hp => h1 p (List.mem_cons_of_mem _ hp)) n2 (fun p hp d hd => ?_) (by simp; omega)]
    · simp
    · rcases List.mem_append.mp hd with hd | hd
      · exact h3 p (List.mem_cons_of_mem _ hp) d hd
      · have e := List.mem_singleton.mp hd
        subst e
        exact fun e => n1 (by have e : a = p := e; rw [e]; exact hp)
/-! the picture -/
def wds (seen hidden : List (List Int)) : List (List Int × Str) := seen.map (fun p => (p, ("seen" : Str))) ++ hidden.map fun p => (p, ("hidden" : Str))
def pic (n : Int) (seen hidden : List (List Int)) : Int × (List (List Int × PySem.Str)) × (List (List Int)) × (List (List Int)) := (n, wds seen hidden, srtT seen, srtT hidden)
structure Pc (n : Nat) (seen hidden : List (List Int)) : Prop where
  two : n = 2 ∨ n = 3
  s : ∀ p ∈ seen, p.length = n
  h : ∀ p ∈ hidden, p.length = n
  nd : (seen ++ hidden).Nodup
  le : seen.length + hidden.length ≤ 1000000
theorem size_ok {n : Nat} (h : n = 2 ∨ n = 3) : notInG (n : Int) [2, 3] = some false := by
  rcases h with rfl | rfl
  all_goals rfl
theorem init_ok {n : Nat} {seen hidden : List (List Int)} (c : Pc n seen hidden) : m_Picture___init__ (none, none, none, none) (n : Int) seen hidden = some ((), (some (n : Int), some (wds seen hidden), some (srtT seen), some (srtT hidden))) := by
  obtain ⟨h1, h2, h3⟩ := List.nodup_append.mp c.nd
  have hl := c.le
  unfold m_Picture___init__
  simp only [o2_s, size_ok c.two, bind_s, Bool.false_eq_true, if_false, fold_cons, fold_nil]
  have hf : ∀ (w : Str) (p : List Int) (ds : List (List Int × Str)), p.length = n → (∀ d ∈ ds, d.1 ≠ p) → ds.length ≤ 16000000 → (fun (place : List Int) (words : List (List Int × Str)) => if (!decide ((place.length : Int) = (n : Int))) = true then none else (dInG place words).bind fun b => if b = true then none else (dPutG words place w).bind fun words => some words) p ds = some (ds ++ [(p, w)]) := by
    intro w p ds e1 e2 e3
    show (if (!decide ((p.length : Int) = (n : Int))) = true then none else (dInG p ds).bind fun b => if b = true then none else (dPutG ds p w).bind fun words => some words) = _
    rw [if_neg (by rw [e1]; simp), dInG_no e2, bind_s, if_neg Bool.false_ne_true, dPutG_new e2 e3, bind_s]
  rw [fill_ok (hf "seen") seen [] c.s h1 (fun _ _ _ hd => by simp at hd) (by simp; omega)]
  simp only [bind_s, List.nil_append, fold_cons, fold_nil]
  rw [fill_ok (hf "hidden") hidden _ c.h h2 (fun p hp d hd e => ?_) (by simp; omega)]
  · have n0 : 0 < n := by have := c.two; omega
    simp only [bind_s, o1_s, sortG_s c.s n0 (by omega), sortG_s c.h n0 (by omega), put4_0, put4_1, put4_2, put4_3]
    rfl
  · obtain ⟨q, hq, rfl⟩ := List.mem_map.mp hd
    exact h3 q hq p hp e
theorem pic_ok {n : Nat} {seen hidden : List (List Int)} (c : Pc n seen hidden) : ((m_Picture___init__ (none, none, none, none) (n : Int) seen hidden).bind fun r => finO4 r.2) = some (pic n seen hidden) := by
  rw [init_ok c]
  rfl
theorem cd_ok (a b : Int) : m_common_divisor a b = some ((Nat.gcd a.natAbs b.natAbs : Nat) : Int) := by
  unfold m_common_divisor
  simp only [abs_if, oP2_s, bind_s]
  rw [euclid (fun a b => rfl) (fun a b hb => by simp only [o2_s, modG_s hb, oP2_s, bind_s]) b.natAbs a.natAbs _ (by simp)]
  rfl
theorem div_ok (l : List Int) : m_divisor_of l = some (gcdL l : Int) := by
  unfold m_divisor_of
  simp only [bind_s, cd_ok]
  rw [fold_pure (h := fun (g : Int) v => ((Nat.gcd g.natAbs v.natAbs : Nat) : Int)) (fun _ => True) (fun a g _ => rfl) l 0 (fun _ _ => trivial)]
  refine congrArg some ?_
  unfold gcdL
  have q : ∀ (l : List Int) (n : Nat), l.foldl (fun (g : Int) v => ((Nat.gcd g.natAbs v.natAbs : Nat) : Int)) (n : Int) = ((l.foldl (fun g v => Nat.gcd g v.natAbs) n : Nat) : Int) := by
    intro l
    induction l with
    | nil => intro n; rfl
    | cons a l ih => intro n; exact ih _
  exact q l 0
abbrev pl (p s : List Int) : List Int := List.zipWith (fun a b => a + b) p s
theorem plus_ok {p s : List Int} (h : p.length = s.length) (hl : p.length ≤ 1000) : m_plus p s = some (pl p s) := by
  unfold m_plus
  simp only [o1_s]
  rw [rngG_s (by omega) (by omega), o1_s, lc_rng (h := fun i => p.getD i 0 + s.getD i 0) (by omega) fun i hi => by rw [o2_s, ixG_i hi, o2_s, ixG_i (h ▸ hi), o2_s, addG_s]; simp [hi, h ▸ hi], bind_s]
  exact congrArg some (range_zip (g := fun a b => a + b) h fun i h1 h2 => by simp [h1, h2])
def sh (s p : List Int) : Bool := decide ((gcdL (pl p s) : Int) = 1)
theorem allseen_ok {n : Nat} {l : List (List Int)} {s : List Int} (hs : s.length = n) (hl : ∀ p ∈ l, p.length = n) (hn : n ≤ 1000) : m_all_seen l s = some (l.all (sh s)) := by
  unfold m_all_seen
  rw [bind_s, loop_find (p := fun p => !sh s p) (r := fun _ => false) fun p hp => ?_]
  · rw [bind_s]
    cases e : l.find? fun p => !sh s p with
    | none =>
      refine congrArg some (Eq.symm (List.all_eq_true.mpr fun p hp => ?_))
      have := List.find?_eq_none.mp e p hp
      simpa using this
    | some p =>
      refine congrArg some (Eq.symm (Bool.eq_false_iff.mpr fun q => ?_))
      have h1 := List.all_eq_true.mp q p (List.mem_of_find?_eq_some e)
      have h2 := List.find?_some e
      rw [h1] at h2
      exact absurd h2 (by decide)
  · rw [plus_ok (by rw [hl p hp, hs]) (by rw [hl p hp]; exact hn), o1_s, div_ok, o2_s, neG_s, bind_s]
    rfl
theorem isshown_ok {n : Nat} {seen hidden : List (List Int)} {s : List Int} (hs : s.length = n) (h1 : ∀ p ∈ seen, p.length = n) (h2 : ∀ p ∈ hidden, p.length = n) (hn : n ≤ 1000) : m_is_shown seen hidden s = some (seen.all (sh s) && hidden.all fun p => !sh s p) := by
  unfold m_is_shown
  rw [allseen_ok hs h1 hn, oNot_s, bind_s]
  cases seen.all (sh s)
  · rfl
  rw [if_neg (by decide), bind_s, loop_find (p := fun p => sh s p) (r := fun _ => false) fun p hp => ?_]
  · rw [bind_s]
    cases e : hidden.find? fun p => sh s p with
    | none =>
      refine congrArg some (Eq.symm ?_)
      rw [Bool.true_and]
      refine List.all_eq_true.mpr fun p hp => ?_
      have := List.find?_eq_none.mp e p hp
      simpa using this
    | some p =>
      refine congrArg some (Eq.symm ?_)
      rw [Bool.true_and]
      refine Bool.eq_false_iff.mpr fun q => ?_
      have h1 := List.all_eq_true.mp q p (List.mem_of_find?_eq_some e)
      have h2 := List.find?_some e
      rw [h2] at h1
      exact absurd h1 (by decide)
  · rw [plus_ok (by rw [h2 p hp, hs]) (by rw [h2 p hp]; exact hn), o1_s, div_ok, o2_s, eqG_s, bind_s]
    rfl
/-! pictures moved -/
theorem Pc.srt {n : Nat} {s h : List (List Int)} (c : Pc n s h) : Pc n (srtT s) (srtT h) := ⟨c.two, fun p hp => c.s p ((srtT_perm s).mem_iff.mp hp), fun p hp => c.h p ((srtT_perm h).mem_iff.mp hp), ((srtT_perm s).append (srtT_perm h)).nodup_iff.mpr c.nd, by
  have := c.le
  rw [(srtT_perm s).length_eq, (srtT_perm h).length_eq]
  exact this⟩
/-! remainders, their classes -/
def rm (q : Int) (p : List Int) : List Int := p.map fun v => v % q
theorem rm_len (q : Int) (p : List Int) : (rm q p).length = p.length := List.length_map _
/-- how many classes -/
def nc (q : Int) (l : List (List Int)) : Nat := (dd (l.map (rm q))).length
theorem dd_le : ∀ l : List (List Int), (dd l).length ≤ l.length
  | [] => Nat.le_refl _
  | a :: l => by
    unfold dd
    rw [List.length_cons, List.length_cons]
    have h1 := List.length_filter_le (fun j => !decide (j = a)) (dd l)
    have h2 := dd_le l
    omega
theorem nc_le (q : Int) (l : List (List Int)) : nc q l ≤ l.length := by
  have := dd_le (l.map (rm q))
  rw [List.length_map] at this
  exact this
theorem nc_perm {q : Int} {l m : List (List Int)} (h : l.Perm m) : nc q l = nc q m :=
  dd_len (dd_nodup _) fun k => by rw [dd_mem, (h.map (rm q)).mem_iff]
theorem rb_ok {p : List Int} (hp : p.length ≤ 1000) {q : Int} (hq : 0 < q) : oLc yes (fun v => o2 modG (some v) (some q)) p = some (rm q p) := lc_map (h := fun v => v % q) (by omega) fun a _ => by rw [o2_s, modG_s hq]
theorem lim_s {α : Type} {B : Nat} {l : List α} (h : l.length ≤ B) : lim B l = some l := if_pos h
theorem rem_ok {p : List Int} (hp : p.length ≤ 1000) {q : Int} (hq : 0 < q) : m_remainders_by p q = some (rm q p) := by
  unfold m_remainders_by
  rw [o1_s, rb_ok hp hq, bind_s]
theorem power_ok {q : Int} {n : Nat} (hn : n = 2 ∨ n = 3) (h0 : 0 ≤ q) (h1 : q ≤ 1000) : m_power q (n : Int) = some (q ^ n) := by
  unfold m_power
  have hq : (q * q).natAbs < 2 ^ 64 := by
    have : q * q ≤ 1000 * 1000 := Int.mul_le_mul h1 h1 h0 (by decide)
    have : 0 ≤ q * q := Int.mul_nonneg h0 h0
    omega
  rcases hn with rfl | rfl
  · have e : decide (((2 : Nat) : Int) = 2) = true := rfl
    rw [e, oIf_t, o2_s, mulG_r (by omega), bind_s]
    refine congrArg some ?_
    rw [Int.pow_succ, Int.pow_succ, Int.pow_zero, Int.one_mul]
  · have e : decide (((3 : Nat) : Int) = 2) = false := rfl
    rw [e, oIf_f, o2_s, mulG_r (by omega), o2_s, mulG_r (by omega), bind_s]
    refine congrArg some ?_
    rw [Int.pow_succ, Int.pow_succ, Int.pow_succ, Int.pow_zero, Int.one_mul]
theorem pow_le {q : Int} {n : Nat} (hn : n = 2 ∨ n = 3) (h0 : 0 ≤ q) (h1 : q ≤ 1000) : 0 ≤ q ^ n ∧ q ^ n ≤ 1000000000 := by
  have h2 : q * q ≤ 1000 * 1000 := Int.mul_le_mul h1 h1 h0 (by decide)
  have h3 : 0 ≤ q * q := Int.mul_nonneg h0 h0
  have h4 : q * q * q ≤ 1000 * 1000 * 1000 := Int.mul_le_mul h2 h1 h0 (by decide)
  have h5 : 0 ≤ q * q * q := Int.mul_nonneg h3 h0
  rcases hn with rfl | rfl
  · have e : q ^ 2 = q * q := by rw [Int.pow_succ, Int.pow_succ, Int.pow_zero, Int.one_mul]
    rw [e]; omega
  · have e : q ^ 3 = q * q * q := by rw [Int.pow_succ, Int.pow_succ, Int.pow_succ, Int.pow_zero, Int.one_mul]
    rw [e]; omega
/-! all rests -/
def prs (n : Nat) : List Int := if n = 2 then [2, 3, 5, 7] else [2, 3]
def ndB : List (List Int) → Bool
  | [] => true
  | a :: l => !l.elem a && ndB l
theorem ndB_nd : ∀ {l : List (List Int)}, ndB l = true → l.Nodup
  | [], _ => List.nodup_nil
  | a :: l, h => by
    unfold ndB at h
    rw [Bool.and_eq_true] at h
    refine List.nodup_cons.mpr ⟨fun z => ?_, ndB_nd h.2⟩
    rw [List.elem_eq_true_of_mem z] at h
    exact absurd h.1 (by decide)
def okR (n : Nat) (q : Int) (R : List (List Int)) : Bool := ndB R && R.all (fun r => decide (r.length = n) && r.all fun v => decide (0 ≤ v ∧ v < q)) && decide (4 ≤ R.length ∧ R.length ≤ 49)
def lR22 : List (List Int) := [[0, 0], [0, 1], [1, 0], [1, 1]]
theorem eR22 : m_all_remainders 2 2 = some lR22 := by rfl
theorem okR22 : okR 2 2 lR22 = true := by decide +kernel
def lR23 : List (List Int) := [[0, 0], [0, 1], [0, 2], [1, 0], [1, 1], [1, 2], [2, 0], [2, 1], [2, 2]]
theorem eR23 : m_all_remainders 2 3 = some lR23 := by rfl
theorem okR23 : okR 2 3 lR23 = true := by decide +kernel
def lR25 : List (List Int) := [[0, 0], [0, 1], [0, 2], [0, 3], [0, 4], [1, 0], [1, 1], [1, 2], [1, 3], [1, 4], [2, 0], [2, 1], [2, 2], [2, 3], [2, 4], [3, 0], [3, 1], [3, 2], [3, 3], [3, 4], [4, 0], [4, 1], [4, 2], [4, 3], [4, 4]]
theorem eR25 : m_all_remainders 2 5 = some lR25 := by rfl
theorem okR25 : okR 2 5 lR25 = true := by decide +kernel
def lR27 : List (List Int) := [[0, 0], [0, 1], [0, 2], [0, 3], [0, 4], [0, 5], [0, 6], [1, 0], [1, 1], [1, 2], [1, 3], [1, 4], [1, 5], [1, 6], [2, 0], [2, 1], [2, 2], [2, 3], [2, 4], [2, 5], [2, 6], [3, 0], [3, 1], [3, 2], [3, 3], [3, 4], [3, 5], [3, 6], [4, 0], [4, 1], [4, 2], [4, 3], [4, 4], [4, 5], [4, 6], [5, 0], [5, 1], [5, 2], [5, 3], [5, 4], [5, 5], [5, 6], [6, 0], [6, 1], [6, 2], [6, 3], [6, 4], [6, 5], [6, 6]]
theorem eR27 : m_all_remainders 2 7 = some lR27 := by rfl
theorem okR27 : okR 2 7 lR27 = true := by decide +kernel
def lR32 : List (List Int) := [[0, 0, 0], [0, 0, 1], [0, 1, 0], [0, 1, 1], [1, 0, 0], [1, 0, 1], [1, 1, 0], [1, 1, 1]]
theorem eR32 : m_all_remainders 3 2 = some lR32 := by rfl
theorem okR32 : okR 3 2 lR32 = true := by decide +kernel
def lR33 : List (List Int) := [[0, 0, 0], [0, 0, 1], [0, 0, 2], [0, 1, 0], [0, 1, 1], [0, 1, 2], [0, 2, 0], [0, 2, 1], [0, 2, 2], [1, 0, 0], [1, 0, 1], [1, 0, 2], [1, 1, 0], [1, 1, 1], [1, 1, 2], [1, 2, 0], [1, 2, 1], [1, 2, 2], [2, 0, 0], [2, 0, 1], [2, 0, 2], [2, 1, 0], [2, 1, 1], [2, 1, 2], [2, 2, 0], [2, 2, 1], [2, 2, 2]]
theorem eR33 : m_all_remainders 3 3 = some lR33 := by rfl
theorem okR33 : okR 3 3 lR33 = true := by decide +kernel
theorem okR_all {n : Nat} (hn : n = 2 ∨ n = 3) {q : Int} (hq : q ∈ prs n) : ∃ R, m_all_remainders (n : Int) q = some R ∧ okR n q R = true := by
  rcases hn with rfl | rfl
  · have hq : q ∈ [(2 : Int), 3, 5, 7] := hq
    simp only [List.mem_cons, List.not_mem_nil, or_false] at hq
    rcases hq with rfl | rfl | rfl | rfl
    · exact ⟨_, eR22, okR22⟩
    · exact ⟨_, eR23, okR23⟩
    · exact ⟨_, eR25, okR25⟩
    · exact ⟨_, eR27, okR27⟩
  · have hq : q ∈ [(2 : Int), 3] := hq
    simp only [List.mem_cons, List.not_mem_nil, or_false] at hq
    rcases hq with rfl | rfl
    · exact ⟨_, eR32, okR32⟩
    · exact ⟨_, eR33, okR33⟩
structure Rests (n : Nat) (q : Int) (R : List (List Int)) : Prop where
  nd : R.Nodup
  row : ∀ r ∈ R, r.length = n ∧ ∀ v ∈ r, 0 ≤ v ∧ v < q
  lo : 4 ≤ R.length
  hi : R.length ≤ 49
theorem rests_all {n : Nat} (hn : n = 2 ∨ n = 3) {q : Int} (hq : q ∈ prs n) : ∃ R, m_all_remainders (n : Int) q = some R ∧ Rests n q R := by
  obtain ⟨R, e, h2⟩ := okR_all hn hq
  unfold okR at h2
  rw [Bool.and_eq_true, Bool.and_eq_true] at h2
  obtain ⟨⟨a, b⟩, c⟩ := h2
  refine ⟨R, e, ndB_nd a, fun r hr => ?_, (of_decide_eq_true c).1, (of_decide_eq_true c).2⟩
  have := List.all_eq_true.mp b r hr
  rw [Bool.and_eq_true] at this
  exact ⟨of_decide_eq_true this.1, fun v hv => of_decide_eq_true (List.all_eq_true.mp this.2 v hv)⟩
theorem prs_of {n : Nat} {q : Int} (h : q ∈ prs n) : 2 ≤ q ∧ q ≤ 7 ∧ (q = 2 ∨ q = 3 ∨ q = 5 ∨ q = 7) := by
  unfold prs at h
  split at h <;> simp at h <;> omega
theorem prs_len (n : Nat) : (prs n).length ≤ 4 ∧ 0 < (prs n).length := by unfold prs; split <;> decide
theorem prs_ix {n : Nat} (hn : n = 2 ∨ n = 3) : ixG [[(2 : Int), 3, 5, 7], [2, 3]] ((n : Int) - 2) = some (prs n) := by rcases hn with rfl | rfl <;> rfl
theorem put_keys {β : Type} {ds : List (List Int × β)} {k k' : List Int} {x : β} : (∃ d ∈ dPut ds k x, d.1 = k') ↔ (∃ d ∈ ds, d.1 = k') ∨ k = k' := by
  unfold dPut
  split
  · rename_i h
    obtain ⟨d0, h0, e0⟩ := List.any_eq_true.mp h
    have e0 := of_decide_eq_true e0
    constructor
    · rintro ⟨d, hd, rfl⟩
      obtain ⟨b, hb, rfl⟩ := List.mem_map.mp hd
      refine .inl ⟨b, hb, ?_⟩
      split <;> rfl
    · have put : ∀ b ∈ ds, ∃ d ∈ ds.map (fun d => if d.1 = k then (d.1, x) else d), d.1 = b.1 := fun b hb => ⟨_, List.mem_map.mpr ⟨b, hb, rfl⟩, by split <;> rfl⟩
      rintro (⟨b, hb, rfl⟩ | rfl)
      · exact put b hb
      · obtain ⟨d, hd, e⟩ := put d0 h0
        exact ⟨d, hd, e.trans e0⟩
  · constructor
    · rintro ⟨d, hd, rfl⟩
      rcases List.mem_append.mp hd with hd | hd
      · exact .inl ⟨d, hd, rfl⟩
      · rw [List.mem_singleton.mp hd]; exact .inr rfl
    · rintro (⟨b, hb, rfl⟩ | rfl)
      · exact ⟨b, List.mem_append_left _ hb, rfl⟩
      · exact ⟨_, List.mem_append_right _ (List.mem_singleton.mpr rfl), rfl⟩
theorem of_keys {β : Type} {k : List Int} : ∀ (l ds : List (List Int × β)), (∃ d ∈ l.foldl (fun d kv => dPut d kv.1 kv.2) ds, d.1 = k) ↔ (∃ d ∈ ds, d.1 = k) ∨ ∃ d ∈ l, d.1 = k
  | [], ds => by simp
  | a :: l, ds => by
    rw [List.foldl_cons, of_keys l, put_keys]
    constructor
    · rintro ((h | rfl) | ⟨d, hd, rfl⟩)
      · exact .inl h
      · exact .inr ⟨a, List.mem_cons_self, rfl⟩
      · exact .inr ⟨d, List.mem_cons_of_mem _ hd, rfl⟩
    · rintro (h | ⟨d, hd, rfl⟩)
      · exact .inl (.inl h)
      · rcases List.mem_cons.mp hd with rfl | hd
        · exact .inl (.inr rfl)
        · exact .inr ⟨d, hd, rfl⟩
def tr (l : List (List Int)) : List (List Int × Bool) := l.map fun p => (p, true)
theorem tr_mem {l : List (List Int)} {k : List Int} : (∃ d ∈ tr l, d.1 = k) ↔ k ∈ l := by
  unfold tr
  constructor
  · rintro ⟨d, hd, rfl⟩
    obtain ⟨p, hp, rfl⟩ := List.mem_map.mp hd
    exact hp
  · intro h
    exact ⟨_, List.mem_map.mpr ⟨k, h, rfl⟩, rfl⟩
theorem notin_of {β : Type} {ds : List (List Int × β)} {k : List Int} {P : Prop} [Decidable P] (h : (∃ d ∈ ds, d.1 = k) ↔ P) : dNotInG k ds = some (!decide P) := by
  unfold dNotInG
  refine congrArg some (congrArg (fun b => !b) ?_)
  by_cases q : P
  · rw [decide_eq_true q]
    cases e : dGet ds k with
    | none =>
      obtain ⟨d, hd, e2⟩ := h.mpr q
      exact absurd e2 (dGet_none.mp e d hd)
    | some x => rfl
  · rw [decide_eq_false q, dGet_none.mpr fun d hd e => q (h.mp ⟨d, hd, e⟩)]
    rfl
theorem pow49 {n : Nat} (hn : n = 2 ∨ n = 3) {q : Int} (hq : q ∈ prs n) : 0 ≤ q ^ n ∧ q ^ n ≤ 49 := by
  rcases hn with rfl | rfl
  · have hq : q ∈ [(2 : Int), 3, 5, 7] := hq
    simp only [List.mem_cons, List.not_mem_nil, or_false] at hq
    rcases hq with rfl | rfl | rfl | rfl <;> decide
  · have hq : q ∈ [(2 : Int), 3] := hq
    simp only [List.mem_cons, List.not_mem_nil, or_false] at hq
    rcases hq with rfl | rfl <;> decide
def F (q : Int) (l : List (List Int)) (row : List Int) : Option (List Int) := l.find? fun p => decide (rm q p = row)
theorem F_cons {q : Int} {a : List Int} {l : List (List Int)} {row : List Int} : F q (a :: l) row = if rm q a = row then some a else F q l row := by
  unfold F
  rw [List.find?_cons]
  by_cases e : rm q a = row
  · rw [decide_eq_true e, if_pos e]
  · rw [decide_eq_false e, if_neg e]
theorem dGet_snoc {β : Type} {ds : List (List Int × β)} {k k' : List Int} {x : β} : dGet (ds ++ [(k, x)]) k' = match dGet ds k' with
  | some y => some y
  | none => if k = k' then some x else none := by
  unfold dGet
  rw [List.find?_append]
  cases e : ds.find? fun d => decide (d.1 = k') with
  | some d => rfl
  | none =>
    rw [List.find?_cons, List.find?_nil]
    by_cases z : k = k'
    · rw [decide_eq_true z, if_pos z]; rfl
    · rw [decide_eq_false z, if_neg z]; rfl
theorem setd_ok {q : Int} (hq : 0 < q) {n : Nat} (n3 : n ≤ 3) : ∀ (l : List (List Int)) (ds : List (List Int × List Int)), (∀ p ∈ l, p.length = n) → ds.length + l.length ≤ 1000000 → ∃ ds', oFold (γ := (List (List Int × (List Int)))) (fun (place : (List Int)) (first : (List (List Int × (List Int)))) =>
      (m_remainders_by place q).bind fun ix => (dSetdG first ix place).bind fun (first : (List (List Int × (List Int)))) =>
    some (first)) l ds = some ds' ∧ ∀ k, dGet ds' k = match dGet ds k with
      | some y => some y
      | none => F q l k
  | [], ds, _, _ => ⟨ds, rfl, fun k => by cases dGet ds k <;> rfl⟩
  | a :: l, ds, hl, hs => by
    rw [List.length_cons] at hs
    have la := hl a List.mem_cons_self
    rw [fold_cons, rem_ok (by omega) hq, bind_s]
    unfold dSetdG
    rw [if_pos (by omega), bind_s, bind_s]
    cases e : dGet ds (rm q a) with
    | some y =>
      dsimp only
      obtain ⟨ds', e1, h1⟩ := setd_ok hq n3 l ds (fun p hp => hl p (List.mem_cons_of_mem _ hp)) (by omega)
      refine ⟨ds', ?_, fun k => ?_⟩
      · rw [← e1]; rfl
      · rw [h1 k]
        by_cases z : rm q a = k
        · subst z; rw [e]
        · rw [F_cons, if_neg z]
    | none =>
      dsimp only
      have pn : dPut ds (rm q a) a = ds ++ [(rm q a, a)] := by
        have := dPutG_new (ds := ds) (k := rm q a) (x := a) (dGet_none.mp e) (by omega)
        unfold dPutG at this
        rw [if_pos (by omega)] at this
        exact Option.some.inj this
      rw [pn]
      obtain ⟨ds', e1, h1⟩ := setd_ok hq n3 l (ds ++ [(rm q a, a)]) (fun p hp => hl p (List.mem_cons_of_mem _ hp)) (by rw [List.length_append]; show ds.length + 1 + l.length ≤ _; omega)
      refine ⟨ds', ?_, fun k => ?_⟩
      · rw [← e1]; rfl
      · rw [h1 k, dGet_snoc, F_cons]
        cases dGet ds k with
        | some y => rfl
        | none =>
          dsimp only
          by_cases z : rm q a = k
          · rw [if_pos z, if_pos z]
          · rw [if_neg z, if_neg z]
def RR (n : Nat) (q : Int) : List (List Int) := (m_all_remainders (n : Int) q).getD []
theorem RR_ok {n : Nat} (hn : n = 2 ∨ n = 3) {q : Int} (hq : q ∈ prs n) : m_all_remainders (n : Int) q = some (RR n q) ∧ Rests n q (RR n q) := by
  obtain ⟨R, e, h⟩ := rests_all hn hq
  have : RR n q = R := by unfold RR; rw [e]; rfl
  rw [this]
  exact ⟨e, h⟩
/-! what lacks by a prime -/
def Ps (n : Nat) : List Int := if n = 2 then [2, 3, 5] else [2, 3]
theorem Ps_prs {n : Nat} {q : Int} (h : q ∈ Ps n) : q ∈ prs n := by
  unfold Ps at h
  unfold prs
  split at h
  · rename_i e
    rw [if_pos e]
    simp only [List.mem_cons, List.not_mem_nil, or_false] at h ⊢
    omega
  · rename_i e
    rw [if_neg e]
    exact h
theorem RR_len {n : Nat} (hn : n = 2 ∨ n = 3) {q : Int} (hq : q ∈ prs n) : ((RR n q).length : Int) = q ^ n := by
  rcases hn with rfl | rfl
  · have hq : q ∈ [(2 : Int), 3, 5, 7] := hq
    simp only [List.mem_cons, List.not_mem_nil, or_false] at hq
    rcases hq with rfl | rfl | rfl | rfl
    · rw [show RR 2 2 = lR22 from congrArg (·.getD []) eR22]; decide
    · rw [show RR 2 3 = lR23 from congrArg (·.getD []) eR23]; decide
    · rw [show RR 2 5 = lR25 from congrArg (·.getD []) eR25]; decide
    · rw [show RR 2 7 = lR27 from congrArg (·.getD []) eR27]; decide
  · have hq : q ∈ [(2 : Int), 3] := hq
    simp only [List.mem_cons, List.not_mem_nil, or_false] at hq
    rcases hq with rfl | rfl
    · rw [show RR 3 2 = lR32 from congrArg (·.getD []) eR32]; decide
    · rw [show RR 3 3 = lR33 from congrArg (·.getD []) eR33]; decide
/-! lists that are drawn item by item, with what ties each item to its own -/
inductive PW {α β : Type} (R : α → β → Prop) : List α → List β → Prop
  | nil : PW R [] []
  | cons {a b l m} : R a b → PW R l m → PW R (a :: l) (b :: m)
theorem PW.len {α β : Type} {R : α → β → Prop} : ∀ {l : List α} {m : List β}, PW R l m → m.length = l.length
  | _, _, .nil => rfl
  | _, _, .cons _ h => by rw [List.length_cons, List.length_cons, h.len]
theorem PW.src {α β : Type} {R : α → β → Prop} : ∀ {l : List α} {m : List β}, PW R l m → ∀ x ∈ m, ∃ a ∈ l, R a x
  | _, _, .nil, x, hx => by cases hx
  | _, _, .cons h t, x, hx => by
    rcases List.mem_cons.mp hx with rfl | hx
    · exact ⟨_, List.mem_cons_self, h⟩
    · obtain ⟨a, ha, r⟩ := t.src x hx
      exact ⟨a, List.mem_cons_of_mem _ ha, r⟩
theorem PW.nd {α β : Type} {R : α → β → Prop} (inj : ∀ a b x, R a x → R b x → a = b) : ∀ {l : List α} {m : List β}, PW R l m → l.Nodup → m.Nodup
  | _, _, .nil, _ => List.nodup_nil
  | a :: l, x :: m, .cons h t, nd => by
    obtain ⟨h1, h2⟩ := List.nodup_cons.mp nd
    refine List.nodup_cons.mpr ⟨fun z => ?_, t.nd inj h2⟩
    obtain ⟨b, hb, r⟩ := t.src x z
    exact h1 (inj a b x h r ▸ hb)
theorem PW.ix {α β : Type} {R : α → β → Prop} : ∀ {l : List α} {m : List β}, PW R l m → ∀ i (h1 : i < l.length) (h2 : i < m.length), R l[i] m[i]
  | _, _, .cons h t, 0, _, _ => h
  | _, _, .cons h t, i + 1, h1, h2 => t.ix i (by simpa using h1) (by simpa using h2)
theorem smapP {α β γ : Type} {f : α → γ → Option (β × γ)} {I : Nat → γ → Prop} {R : α → β → Prop} : ∀ (l : List α) (n : Nat) (g : γ), I n g → (∀ a i g, a ∈ l → n ≤ i → i < n + l.length → I i g → W (f a g) fun r => R a r.1 ∧ I (i + 1) r.2) → ∃ xs g', sMap f l g = some (xs, g') ∧ PW R l xs ∧ I (n + l.length) g'
  | [], n, g, h, _ => ⟨[], g, rfl, .nil, h⟩
  | a :: l, n, g, h, hs => by
    obtain ⟨⟨x, g1⟩, e1, r1, h1⟩ := hs a n g List.mem_cons_self (Nat.le_refl _) (by rw [List.length_cons]; omega) h
    have r1 : R a x := r1
    have h1 : I (n + 1) g1 := h1
    obtain ⟨xs, g2, e2, r2, h2⟩ := smapP l (n + 1) g1 h1 fun b i g hb h0 h1 hi => hs b i g (List.mem_cons_of_mem _ hb) (by omega) (by rw [List.length_cons]; omega) hi
    refine ⟨x :: xs, g2, ?_, .cons r1 r2, by rw [List.length_cons, show n + (l.length + 1) = n + 1 + l.length by omega]; exact h2⟩
    show sC (f a g) _ = _
    rw [e1, sC_s, e2, sC_s]
/-- a drawn comprehension; what ties each item to its own -/
theorem W_slcP {α β γ : Type} {f : α → γ → Option (β × γ)} {Q : List β × γ → Prop} (I : Nat → γ → Prop) (R : α → β → Prop) {l : List α} {g : γ} (hl : l.length ≤ 16000000) (h : I 0 g) (hs : ∀ a i g, a ∈ l → i < l.length → I i g → W (f a g) fun r => R a r.1 ∧ I (i + 1) r.2) (hq : ∀ xs g', PW R l xs → I l.length g' → Q (xs, g')) : W (sLc f l g) Q := by
  obtain ⟨xs, g', e, r, k⟩ := smapP (f := f) (I := I) (R := R) l 0 g h fun a i g ha _ h1 hi => hs a i g ha (by omega) hi
  rw [Nat.zero_add] at k
  unfold sLc
  rw [if_pos hl, e]
  exact ⟨_, rfl, hq _ _ r k⟩
theorem smapT_sub {α γ : Type} {t : α → γ → Option (Bool × γ)} {f : α → γ → Option (α × γ)} {I : Nat → γ → Prop} (hf : ∀ a g, f a g = some (a, g)) : ∀ (l : List α) (n : Nat) (g : γ), I n g → (∀ a i g, a ∈ l → n ≤ i → i < n + l.length → I i g → W (t a g) fun r => I (i + 1) r.2) → ∃ xs g', sMapT t f l g = some (xs, g') ∧ xs.Sublist l ∧ I (n + l.length) g'
  | [], n, g, h, _ => ⟨[], g, rfl, List.Sublist.refl _, h⟩
  | a :: l, n, g, h, hs => by
    obtain ⟨⟨b, g1⟩, e1, h1⟩ := hs a n g List.mem_cons_self (Nat.le_refl _) (by rw [List.length_cons]; omega) h
    have h1 : I (n + 1) g1 := h1
    obtain ⟨xs, g2, e2, r2, h2⟩ := smapT_sub hf l (n + 1) g1 h1 fun b i g hb h0 h1 hi => hs b i g (List.mem_cons_of_mem _ hb) (by omega) (by rw [List.length_cons]; omega) hi
    rw [show n + 1 + l.length = n + (l.length + 1) by omega] at h2
    rw [List.length_cons]
    cases b with
    | true =>
      refine ⟨a :: xs, g2, ?_, r2.cons_cons a, h2⟩
      show sC (t a g) _ = _
      rw [e1, sC_s, if_pos rfl, hf, sC_s, e2, sC_s]
    | false =>
      refine ⟨xs, g2, ?_, r2.cons a, h2⟩
      show sC (t a g) _ = _
      rw [e1, sC_s, if_neg Bool.false_ne_true, e2]
/-- items chosen by draws -/
theorem W_slcT {α γ : Type} {t : α → γ → Option (Bool × γ)} {f : α → γ → Option (α × γ)} {Q : List α × γ → Prop} (I : Nat → γ → Prop) {l : List α} {g : γ} (hl : l.length ≤ 16000000) (h : I 0 g) (hf : ∀ a g, f a g = some (a, g)) (hs : ∀ a i g, a ∈ l → i < l.length → I i g → W (t a g) fun r => I (i + 1) r.2) (hq : ∀ xs g', xs.Sublist l → I l.length g' → Q (xs, g')) : W (sLcT t f l g) Q := by
  obtain ⟨xs, g', e, r, k⟩ := smapT_sub (t := t) (f := f) (I := I) hf l 0 g h fun a i g ha _ h1 hi => hs a i g ha (by omega) hi
  rw [Nat.zero_add] at k
  unfold sLcT
  rw [if_pos hl, e]
  exact ⟨_, rfl, hq _ _ r k⟩
theorem rngL_ix {n i : Nat} (h : i < (rngL 0 (n : Int)).length) : (rngL 0 (n : Int))[i] = (i : Int) := by
  have := rngL_get (List.getElem?_eq_getElem h)
  omega
theorem rngL_length (n : Nat) : (rngL 0 (n : Int)).length = n := by rw [rngL_len]; omega
theorem nin_t {α : Type} [DecidableEq α] [Sk α] [SkA α] {a : α} {l : List α} (h : a ∉ l) : notInDG a l = some true := by rw [notInDG_s, decide_eq_false h]; rfl
theorem nin_f {α : Type} [DecidableEq α] [Sk α] [SkA α] {a : α} {l : List α} (h : a ∈ l) : notInDG a l = some false := by rw [notInDG_s, decide_eq_true h]; rfl
theorem in_t {α : Type} [DecidableEq α] [Sk α] [SkA α] {a : α} {l : List α} (h : a ∈ l) : inDG a l = some true := by rw [inDG_s, decide_eq_true h]
theorem in_f {α : Type} [DecidableEq α] [Sk α] [SkA α] {a : α} {l : List α} (h : a ∉ l) : inDG a l = some false := by rw [inDG_s, decide_eq_false h]
theorem nin_d {α : Type} [DecidableEq α] [Sk α] [SkA α] {a : α} {l : List α} [i : Decidable (a ∈ l)] : notInDG a l = some (!@decide (a ∈ l) i) := by
  by_cases h : a ∈ l
  · rw [nin_f h, decide_eq_true h]; rfl
  · rw [nin_t h, decide_eq_false h]; rfl
theorem in_d {α : Type} [DecidableEq α] [Sk α] [SkA α] {a : α} {l : List α} [i : Decidable (a ∈ l)] : inDG a l = some (@decide (a ∈ l) i) := by
  by_cases h : a ∈ l
  · rw [in_t h, decide_eq_true h]
  · rw [in_f h, decide_eq_false h]
theorem ne_self {α : Type} [DecidableEq α] [Sk α] [SkA α] {a : α} : neDG a a = some false := by rw [neDG_s, decide_eq_true rfl]; rfl
theorem eq_self' {α : Type} [DecidableEq α] [Sk α] [SkA α] {a : α} : eqDG a a = some true := by rw [eqDG_s, decide_eq_true rfl]
/-! data of any kind -/
theorem neU_same {d : PyData} (h : SeqAt.shaped d = true) (e : PyData.eqv d d = true) : neU d d = some false := by
  unfold neU
  rw [if_pos ⟨h, h⟩, e]
  rfl
theorem eqU_same {d : PyData} (h : SeqAt.shaped d = true) (e : PyData.eqv d d = true) : eqU d d = some true := by
  unfold eqU
  rw [if_pos ⟨h, h⟩, e]
theorem shp_int (i : Int) : SeqAt.shaped (.int i) = true := rfl
theorem shp_non : SeqAt.shaped .none = true := rfl
theorem eqv_int (i j : Int) : PyData.eqv (.int i) (.int j) = decide (i = j) := by
  show (i == j) = _
  by_cases h : i = j
  · subst h; simp
  · simp [h]
theorem eqv_str (i j : Str) : PyData.eqv (.str i) (.str j) = decide (i = j) := by
  show (i == j) = _
  by_cases h : i = j
  · subst h; simp
  · rw [decide_eq_false h]
    simpa using h
theorem eqv_ints : ∀ l m : List Int, PyData.eqvAll (l.map .int) (m.map .int) = decide (l = m)
  | [], [] => rfl
  | [], _ :: _ => rfl
  | _ :: _, [] => rfl
  | a :: l, b :: m => by
    rw [List.map_cons, List.map_cons, PyData.eqvAll, eqv_int, eqv_ints l m]
    by_cases h1 : a = b <;> by_cases h2 : l = m <;> simp [h1, h2]
theorem lay_ints : ∀ l : List Int, PyData.canLayAll0 (l.map .int) = true
  | [] => rfl
  | a :: l => by rw [List.map_cons, PyData.canLayAll0, lay_ints l]; rfl
theorem dep_ints : ∀ l : List Int, PyData.depthAll (l.map .int) = 0
  | [] => rfl
  | a :: l => by rw [List.map_cons, PyData.depthAll, dep_ints l]; rfl
theorem spot_any {c : Nat} {s : List Int} (h : Ok c s) (hc : c + 6 ≤ 2 ^ 50) {n : Nat} (hn : n ≤ 6) {r : Int} (r0 : 0 ≤ r) (r1 : r ≤ 10 ^ 60) : W (m_spot s (n : Int) r) fun o => o.1.length = n ∧ Ok (c + 6) o.2 := by
  unfold m_spot
  rw [o1_s, rngG_s (by omega) (by omega), bind_s]
  refine W_slcP (fun i g => Ok (c + i) g) (fun _ _ => True) (by rw [rngL_length]; omega) h (fun k i g hk hi hg => ?_) fun xs g' hp hk => ⟨by rw [hp.len, rngL_length], hk.mono (by rw [rngL_length]; omega)⟩
  rw [rngL_length] at hi
  obtain ⟨x, u, e, k, _⟩ := draw_ok hg (by omega) (m := 2 * r + 1) (by omega) (by omega)
  have mm : mulG 2 r = some (2 * r) := mulG_l (by decide)
  simp only [o2_s, mm, addG_s, sP_s, s2_s, s1_s, sC_s, e, subG_s, sK_s]
  exact W_some ⟨trivial, k⟩
def errD (x : PyData) : PyData := .list [x, .bool true, .bool false]
theorem errD_same {x : PyData} (h : SeqAt.shaped x = true) (hd : PyData.depth x ≤ 3) (e : PyData.eqv x x = true) : neU (errD x) (errD x) = some false := by
  refine neU_same ?_ ?_
  · unfold errD
    unfold SeqAt.shaped at h
    rw [Bool.and_eq_true] at h
    simp [SeqAt.shaped, PyData.canLay0, PyData.canLayAll0, PyData.depth, PyData.depthAll, h.1]
    omega
  · unfold errD
    simp only [PyData.eqv, PyData.eqvAll, e, beq_self_eq_true, Bool.and_true, Bool.and_self]
theorem showsX {n : Nat} {s h : List (List Int)} {v : List Int} (c : Pc n s h) : m_shows (pic n s h) v = some (if v.length = n then .ok (s.all (sh v) && h.all fun p => !sh v p) else .error ⟨"InvalidPlace", .tup v⟩) := by
  by_cases hs : v.length = n
  · rw [if_pos hs]
    unfold m_shows m_Picture_size m_Picture_seen m_Picture_hidden pic
    simp only [bind_s, o1_s, o2_s, neG_s, hs, decide_true, Bool.not_true, Bool.false_eq_true, if_false, o3_s]
    rw [isshown_ok hs (fun p hp => c.s p ((srtT_perm _).mem_iff.mp hp)) (fun p hp => c.h p ((srtT_perm _).mem_iff.mp hp)) (by have := c.two; omega), srt_all, srt_all]
    rfl
  · rw [if_neg hs]
    unfold m_shows m_Picture_size pic
    rw [o1_s, bind_s, o2_s, neG_s, decide_eq_false (by show ¬ (v.length : Int) = (n : Int); omega), bind_s, Bool.not_false, if_pos rfl, bind_s]
theorem refs_ok {n : Nat} {s h : List (List Int)} {v : List Int} (c : Pc n s h) : m_refused_shift (pic n s h) v = some (if v.length = n then .none else errD (.tuple (v.map .int))) := by
  unfold m_refused_shift
  rw [bind_s, showsX c, bind_s]
  by_cases hs : v.length = n
  · rw [if_pos hs, if_pos hs]; rfl
  · rw [if_neg hs, if_neg hs]; rfl
theorem prs_in {n : Nat} : oIf (some (decide ((n : Int) = 2))) (some [(2 : Int), 3, 5, 7]) (some [2, 3]) = some (prs n) := by
  unfold prs
  by_cases h : n = 2
  · subst h; rfl
  · rw [decide_eq_false (by omega), if_neg h]; rfl
theorem chkX {n : Nat} {q : Int} : m_check_prime (n : Int) q = some (if q ∈ prs n then .ok () else .error ⟨"InvalidNumber", .int q⟩) := by
  unfold m_check_prime
  have ng : notInG q (prs n) = some (!decide (q ∈ prs n)) := rfl
  rw [prs_in, bind_s, o2_s, ng, bind_s]
  by_cases h : q ∈ prs n
  · rw [decide_eq_true h, if_pos h]; rfl
  · rw [decide_eq_false h, if_neg h, Bool.not_false, if_pos rfl]; rfl
theorem clsX {n : Nat} {s h : List (List Int)} (c : Pc n s h) {q : Int} : if q ∈ prs n then ∃ L, m_classes (pic n s h) q = some (.ok L) ∧ L.length = (RR n q).length else m_classes (pic n s h) q = some (.error ⟨"InvalidNumber", .int q⟩) := by
  have hn := c.two
  have g1 : m_Picture_size (pic n s h) = some (n : Int) := rfl
  have g2 : m_Picture_seen (pic n s h) = some (srtT s) := rfl
  by_cases hq : q ∈ prs n
  · rw [if_pos hq]
    have q0 := (prs_of hq).1
    obtain ⟨eR, hR⟩ := RR_ok hn hq
    have r49 := hR.hi
    have le := c.srt.le
    obtain ⟨ds, e1, h1⟩ := setd_ok (q := q) (by omega) (n := n) (by omega) (srtT s) [] c.srt.s (by simp; omega)
    refine ⟨(RR n q).map fun r => (r, F q (srtT s) r), ?_, by rw [List.length_map]⟩
    unfold m_classes
    simp only [o1_s, g1, o2_s, chkX, if_pos hq, bind_s, g2, eR]
    rw [e1, bind_s, lc_map (h := fun r => (r, F q (srtT s) r)) (by omega) fun r _ => by
      unfold dGet1G
      rw [oP2_s, h1 r]
      rfl]
    rfl
  · rw [if_neg hq]
    unfold m_classes
    rw [o1_s, g1, o2_s, chkX, if_neg hq, bind_s]
theorem jdgX {n : Nat} {s h : List (List Int)} (c : Pc n s h) {q : Int} {row : List (List Int)} (hr : ∀ p ∈ row, p.length = n) (lr : row.length ≤ 63) : if q ∈ prs n then ∃ b, m_judge_barring (pic n s h) q row = some (.ok b) ∧ (row = [] → b = false) else m_judge_barring (pic n s h) q row = some (.error ⟨"InvalidNumber", .int q⟩) := by
  have hn := c.two
  have g1 : m_Picture_size (pic n s h) = some (n : Int) := rfl
  have g2 : m_Picture_seen (pic n s h) = some (srtT s) := rfl
  by_cases hq : q ∈ prs n
  · rw [if_pos hq]
    have q0 := prs_of hq
    obtain ⟨p0, p1⟩ := pow49 hn hq
    have le := c.srt.le
    have dm : oLc yes (fun (place : List Int) => oP2 (some place) (some true)) (srtT s) = some (tr (srtT s)) := lc_map (h := fun p => (p, true)) (by omega) fun _ _ => rfl
    unfold m_judge_barring
    simp only [o1_s, g1, o2_s, chkX, if_pos hq, bind_s, power_ok hn (show 0 ≤ q by omega) (show q ≤ 1000 by omega), neG_s, g2]
    by_cases e : (row.length : Int) = q ^ n
    · rw [decide_eq_true e, Bool.not_true, if_neg Bool.false_ne_true, dm, o1_s, lim_s (by unfold tr; rw [List.length_map]; omega), map_s, bind_s]
      have keys : ∀ k, (∃ d ∈ dOf (tr (srtT s)), d.1 = k) ↔ k ∈ s := fun k => by
        unfold dOf
        rw [of_keys, tr_mem, (srtT_perm s).mem_iff]
        simp
      rw [loop_find (p := fun p => !decide (p ∈ s)) (r := fun _ => .ok false) fun p hp => by
        rw [notin_of (keys p), bind_s], bind_s]
      have ne : row ≠ [] := fun z => by
        rw [z] at e
        have e : (0 : Int) = q ^ n := e
        have : 0 < q ^ n := Int.pow_pos (by omega)
        omega
      cases row.find? fun p => !decide (p ∈ s) with
      | some p => exact ⟨_, rfl, fun z => absurd z ne⟩
      | none =>
        dsimp only
        rw [lc_map (h := rm q) (by omega) fun p hp => rem_ok (by rw [hr p hp]; omega) (by omega), o1_s, lim_s (by rw [List.length_map]; omega), map_s, o2_s, eqG_s, bind_s]
        exact ⟨_, rfl, fun z => absurd z ne⟩
    · rw [decide_eq_false e]
      exact ⟨_, rfl, fun _ => rfl⟩
  · rw [if_neg hq]
    unfold m_judge_barring
    rw [o1_s, g1, o2_s, chkX, if_neg hq, bind_s]
theorem refp_ok {n : Nat} {s h : List (List Int)} (c : Pc n s h) {q : Int} {told : Option (List (List Int))} (ht : ∀ row, told = some row → (∀ p ∈ row, p.length = n) ∧ row.length ≤ 63) : m_refused_prime (pic n s h) q told = some (if q ∈ prs n then .none else errD (.int q)) := by
  unfold m_refused_prime
  rw [bind_s, bind_s]
  by_cases hq : q ∈ prs n
  · rw [if_pos hq]
    cases told with
    | none =>
      have := clsX c (q := q)
      rw [if_pos hq] at this
      obtain ⟨L, e, _⟩ := this
      rw [Option.isNone_none, if_pos rfl, e]
      rfl
    | some row =>
      obtain ⟨h1, h2⟩ := ht row rfl
      have := jdgX c (q := q) h1 h2
      rw [if_pos hq] at this
      obtain ⟨b, e, _⟩ := this
      rw [Option.isNone_some, if_neg Bool.false_ne_true, o3_s, e]
      rfl
  · rw [if_neg hq]
    cases told with
    | none =>
      have := clsX c (q := q)
      rw [if_neg hq] at this
      rw [Option.isNone_none, if_pos rfl, this]
      rfl
    | some row =>
      obtain ⟨h1, h2⟩ := ht row rfl
      have := jdgX c (q := q) h1 h2
      rw [if_neg hq] at this
      rw [Option.isNone_some, if_neg Bool.false_ne_true, o3_s, this]
      rfl
theorem two_prs {n : Nat} : (2 : Int) ∈ prs n ∧ (3 : Int) ∈ prs n := by
  unfold prs
  split <;> decide
theorem primes_ok {c : Nat} {t : List Int} (ht : Ok c t) (hc : c ≤ 2 ^ 30) {n : Nat} {s h : List (List Int)} (P : Pc n s h) (ls : s.length ≤ 63) : W (m_primes_right t (pic n s h) (n : Int)) fun r => r.1 = true := by
  have hn := P.two
  have g2 : m_Picture_seen (pic n s h) = some (srtT s) := rfl
  unfold m_primes_right
  obtain ⟨x5, t5, e5, k5, _⟩ := draw_ok ht (by omega) (m := 10 ^ 59) (by decide) (by decide)
  obtain ⟨x6, t6, e6, k6, _⟩ := draw_ok k5 (by omega) (m := 10 ^ 59) (by decide) (by decide)
  have lc16 : (o1 (oLc yes (fun (number : Int) => (some (number - 3)))) (o1 rngG (some 16))) = some ((rngL 0 16).map fun v => v - 3) := by
    rw [o1_s, rngG_s (by decide) (by decide), o1_s, lc_map (h := fun v => v - 3) (by decide) fun _ _ => rfl]
  rw [o2_s, prs_ix hn, bind_s, lc16, o2_s, catG_s (by rw [List.length_map, rngL_len]; simp), bind_s]
  simp only [sP_s, s2_s, s1_s, sCons, sC_s, e5, e6, addG_s, subG_s, sK_s]
  rw [szG_s (by simp), sK_s, sC_s, catG_s (by rw [List.length_append, List.length_map, rngL_len]; simp), sK_s, bind_s]
  dsimp only
  generalize ((rngL 0 16).map fun v => v - 3) ++ [25, 49] ++ [x5 + 13, 0 - x6] = A
  rw [bind_s]
  refine W_bind (W_all (fun q _ => ?_) (W_some rfl))
  have due : oIf (o2 inDG (some q) (some (prs n))) (some PyData.none) (some (PyData.list [(PyData.int q), (PyData.bool true), (PyData.bool false)])) = some (if q ∈ prs n then .none else errD (.int q)) := by
    rw [o2_s]
    by_cases hq : q ∈ prs n
    · rw [in_t hq, if_pos hq]; rfl
    · rw [in_f hq, if_neg hq]; rfl
  have same : neU (if q ∈ prs n then .none else errD (.int q)) (if q ∈ prs n then .none else errD (.int q)) = some false := by
    by_cases hq : q ∈ prs n
    · rw [if_pos hq]; exact neU_same rfl rfl
    · rw [if_neg hq]; exact errD_same rfl (Nat.zero_le _) (by rw [eqv_int]; exact decide_eq_true rfl)
  rw [due, bind_s, o1_s, g2, map_s, oCons_s, oCons_s, oCons_s, o1_s, szG_s (by simp), bind_s]
  refine W_bind (W_all (fun told htd => ?_) ?_)
  · rw [refp_ok P (told := told) fun row hrow => ?_, o2_s, same, bind_s]
    · exact W_some rfl
    · subst hrow
      simp only [List.mem_cons, List.not_mem_nil, or_false, Option.some.injEq, reduceCtorEq, false_or] at htd
      rcases htd with rfl | rfl
      · exact ⟨by simp, by simp⟩
      · exact ⟨P.srt.s, by rw [(srtT_perm s).length_eq]; exact ls⟩
  · have c2 := clsX P (q := 2)
    have j3 := jdgX P (q := 3) (row := []) (by simp) (by simp)
    rw [if_pos two_prs.1] at c2
    rw [if_pos two_prs.2] at j3
    obtain ⟨L, e1, l1⟩ := c2
    obtain ⟨b, e2, hb⟩ := j3
    have hb := hb rfl
    subst hb
    have okc : (some (.ok L) : Option (Except Er (List ((List Int) × (Option (List Int)))))).bind okG = some L := rfl
    have okj : (some (.ok false) : Option (Except Er Bool)).bind okG = some false := rfl
    have i4 : o2 ixG (some [(4 : Int), 8]) (some ((n : Int) - 2)) = some (L.length : Int) := by
      have := RR_len hn two_prs.1
      rw [l1, this]
      rcases hn with rfl | rfl <;> rfl
    dsimp only
    rw [e1, okc, e2, okj, o1_s, lenG_s, i4, o2_s, neG_s, decide_eq_true rfl, o2_s, neG_s, decide_eq_true rfl]
    exact W_some rfl
theorem case_ok {t : List Int} (ht : Ok 0 t) : W (m_case t) fun r => r.1 = true := by
  unfold m_case
  obtain ⟨x1, t1, e1, k1, a1, b1⟩ := draw_ok ht (by decide) (m := 2) (by decide) (by decide)
  obtain ⟨n, hn⟩ : ∃ n : Nat, 2 + x1 = (n : Int) := ⟨(2 + x1).toNat, by omega⟩
  have two : n = 2 ∨ n = 3 := by omega
  have n3 : n ≤ 3 := by omega
  obtain ⟨x3, t3, e3, k3, a3, b3⟩ := draw_ok k1 (by decide) (m := 6) (by decide) (by decide)
  obtain ⟨m, rfl⟩ : ∃ m : Nat, x3 = (m : Int) := ⟨x3.toNat, by omega⟩
  rw [sP_s, s2_s, sP_s, s1_s, e1, sC_s, addG_s, sK_s, hn, bind_s]
  dsimp only
  rw [bind_s, sP_s, s1_s, e3, s1_s, rngG_s (n := (m : Int)) (by omega) (by omega), sK_s, bind_s]
  dsimp only
  refine W_then (W_foldR (fun i (g : List Int × List (List Int)) => ((∀ p ∈ g.2, p.length = n) ∧ g.2.Nodup ∧ g.2.length ≤ i) ∧ Ok (2 + 6 * i) g.1) ⟨⟨by simp, List.nodup_nil, Nat.le_refl _⟩, k3⟩ (fun i g hi hg => ?_) fun g hg => hg) fun ⟨t4, sp⟩ ⟨⟨p4, n4, l4⟩, k4⟩ => ?_
  · obtain ⟨u, sp⟩ := g
    obtain ⟨⟨g1, g2, g4⟩, g3⟩ := hg
    have g1 : ∀ p ∈ sp, p.length = n := g1
    have g2 : sp.Nodup := g2
    have g4 : sp.length ≤ i := g4
    have g3 : Ok (2 + 6 * i) u := g3
    obtain ⟨⟨z, u2⟩, e5, lz, k5⟩ := spot_any g3 (by omega) (n := n) (by omega) (r := 40) (by decide) (by decide)
    have e5 : m_spot u (n : Int) 40 = some (z, u2) := e5
    have lz : z.length = n := lz
    have k5 : Ok (2 + 6 * i + 6) u2 := k5
    dsimp only
    rw [sP_s, s2_s, sP_s, sC_s, e5, bind_s]
    dsimp only
    rw [o2_s]
    by_cases q : z ∈ sp
    · rw [nin_f q, bind_s, if_neg Bool.false_ne_true]
      exact W_some ⟨⟨g1, g2, by show sp.length ≤ _; omega⟩, k5.mono (by omega)⟩
    · rw [nin_t q, bind_s, if_pos rfl, bind_s, appG_s (by omega), bind_s]
      refine W_some ⟨⟨fun p hp => (List.mem_append.mp hp).elim (g1 p) fun hp => by rw [List.mem_singleton.mp hp]; exact lz, ?_, by show (sp ++ [z]).length ≤ _; rw [List.length_append, List.length_singleton]; omega⟩, k5.mono (by omega)⟩
      refine List.nodup_append.mpr ⟨g2, by simp, fun a ha b' hb e => ?_⟩
      rw [List.mem_singleton.mp hb] at e
      exact q (e ▸ ha)
  have p4 : ∀ p ∈ sp, p.length = n := p4
  have n4 : sp.Nodup := n4
  have l4 : sp.length ≤ m := l4
  have k4 : Ok (2 + 6 * m) t4 := k4
  have P : Pc n (sp.take 4) (sp.drop 4) := ⟨two, fun p hp => p4 p (List.mem_of_mem_take hp), fun p hp => p4 p (List.mem_of_mem_drop hp), by rw [List.take_append_drop]; exact n4, by rw [List.length_take, List.length_drop]; omega⟩
  have ls : (sp.take 4).length ≤ 63 := by rw [List.length_take]; omega
  have c1 : cut sp none (some 4) = sp.take 4 := cut_to (n := 4)
  have c2 : cut sp (some 4) none = sp.drop 4 := cut_from (n := 4)
  dsimp only
  rw [oCut_s, oCut_s, c1, c2, o3_s, pic_ok P, bind_s]
  generalize sp.take 4 = s at *
  generalize sp.drop 4 = h at *
  have okB : ∀ v : List Int, v.length = n → ∃ b, (m_shows (pic n s h) v).bind okG = some b := fun v lv => by
    rw [showsX P, if_pos lv]
    exact ⟨_, rfl⟩
  obtain ⟨⟨z, t5⟩, e5, lz, k5⟩ := spot_any k4 (by omega) (n := n) (by omega) (r := 1) (by decide) (by decide)
  have e5 : m_spot t4 (n : Int) 1 = some (z, t5) := e5
  have lz : z.length = n := lz
  have k5 : Ok (2 + 6 * m + 6) t5 := k5
  obtain ⟨b5, f5⟩ := okB z lz
  simp only [sGC, sP_s, s2_s, sC_s, e5, f5, sK_s, bind_s]
  rw [o1_s, rngG_s (by decide) (by decide), bind_s]
  refine W_bind (W_loop (I := fun (D : List Int) (g : List Int) => ∃ j : Nat, D = rngL (j : Int) 7 ∧ j ≤ 7 ∧ Ok (100 + 20 * j) g) ⟨0, rfl, by decide, k5.mono (by omega)⟩ (fun a D g hD => ?_) fun g hD => ?_)
  · obtain ⟨j, eD, j7, kg⟩ := hD
    have hj : j < 7 := by
      by_cases z : j < 7
      · exact z
      · rw [rngL_nil' (by omega)] at eD
        cases eD
    rw [rngL_cons (by omega)] at eD
    injection eD with e4 e5
    subst e4
    obtain ⟨x7, u7, e7, k7, a7, b7⟩ := draw_ok kg (by omega) (m := 3) (by decide) (by decide)
    obtain ⟨re, er, r0, r1⟩ : ∃ w, ixG [(1 : Int), 40, 10 ^ 59] x7 = some w ∧ 0 ≤ w ∧ w ≤ 10 ^ 60 := by
      obtain rfl | rfl | rfl : x7 = 0 ∨ x7 = 1 ∨ x7 = 2 := by omega
      all_goals exact ⟨_, rfl, by decide, by decide⟩
    obtain ⟨⟨o, u8⟩, e8, lo8, k8⟩ := spot_any k7 (by omega) (n := j) (by omega) r0 r1
    have e8 : m_spot u7 (j : Int) re = some (o, u8) := e8
    have lo8 : o.length = j := lo8
    have k8 : Ok (100 + 20 * j + 1 + 6) u8 := k8
    obtain ⟨⟨z, u9⟩, e9, lz, k9⟩ := spot_any k8 (by omega) (n := n) (by omega) (r := 10 ^ 59) (by decide) (by decide)
    have e9 : m_spot u8 (n : Int) (10 ^ 59) = some (z, u9) := e9
    have lz : z.length = n := lz
    have k9 : Ok (100 + 20 * j + 1 + 6 + 6) u9 := k9
    obtain ⟨b9, f9⟩ := okB z lz
    have due : oIf (some (decide ((j : Int) = (n : Int)))) (some PyData.none) (some (PyData.list [(PyData.tuple (o.map PyData.int)), (PyData.bool true), (PyData.bool false)])) = some (if o.length = n then .none else errD (.tuple (o.map .int))) := by
      by_cases h : j = n
      · rw [decide_eq_true (by omega), if_pos (by omega)]; rfl
      · rw [decide_eq_false (by omega), if_neg (by omega)]; rfl
    have same : neU (if o.length = n then .none else errD (.tuple (o.map .int))) (if o.length = n then .none else errD (.tuple (o.map .int))) = some false := by
      by_cases h : o.length = n
      · rw [if_pos h]; exact neU_same rfl rfl
      · rw [if_neg h]
        refine errD_same ?_ ?_ ?_
        · simp [SeqAt.shaped, PyData.canLay0, PyData.depth, lay_ints, dep_ints]
        · simp [PyData.depth, dep_ints]
        · rw [PyData.eqv, eqv_ints, decide_eq_true rfl]
    simp only [s1_s, e7, sC_s, er, sK_s, e8, bind_s]
    rw [due, bind_s, refs_ok P, o2_s, same, bind_s, if_neg Bool.false_ne_true]
    simp only [sC_s, e9, f9, sK_s, map_s, sNot, bind_s, Bool.not_true, Bool.false_eq_true, if_false]
    exact W_some ⟨j + 1, by rw [e5]; rfl, by omega, k9.mono (by omega)⟩
  · obtain ⟨j, _, j7, kg⟩ := hD
    obtain ⟨⟨b, u⟩, e, hb⟩ := primes_ok kg (by omega) P ls
    have hb : b = true := hb
    subst hb
    refine W_eq (d := (true, u)) ?_ rfl
    simp only [sAnd, sC_s, if_true, e]
theorem law_true (s : List Int) (h : s.length ≤ 63) : m_law s = some true := by
  unfold m_law
  simp only [o1_s, o2_s, minG_s, maxG_s]
  rw [rngG_s (by omega) (by omega), bind_s]
  refine W_is (W_bind (W_all (fun k hk => ?_) (W_some rfl)))
  have hk := rngL_mem hk
  obtain ⟨t, e, ht⟩ := well_ok (s := s) hk.1
  obtain ⟨⟨b, t'⟩, e2, rfl⟩ := case_ok ht
  rw [e, bind_s, e2, bind_s, oNot_s, bind_s]
  exact ⟨_, rfl, rfl⟩
end Pl

set_option maxHeartbeats 4000000
namespace Wk
open PySem PySem.Spec PyProof.Rows L2 Mw Mi
open Evl (Ex)
abbrev pwX := PySem.Challenge.pw_seenposts_k24_refused_shifts_and_primes
def topS (i : Nat) : Stmt := pwX.main.body.getD i (.Pass ⟨0, 0, 0, 0⟩)
abbrev FnP (K : PySem.W.Frag) (x : PySem.Str) (st : Stmt) (f : Addr) (fd : FuncData) : Prop := FunD K x x (defArgs st) (defBody st) (defScope st) [] [] f fd
structure Txt (mg : PySem.Str → Option Value) : Prop where
  b_abs : mg "abs" = none
  b_bool : mg "bool" = none
  b_int : mg "int" = none
  b_isinstance : mg "isinstance" = none
  b_len : mg "len" = none
  b_list : mg "list" = none
  b_max : mg "max" = none
  b_min : mg "min" = none
  b_range : mg "range" = none
  b_sorted : mg "sorted" = none
  b_tuple : mg "tuple" = none
def clsS (i j : Nat) : Stmt := match topS i with
  | .ClassDef _ _ _ b _ _ _ _ _ _ _ => b.getD j (.Pass ⟨0, 0, 0, 0⟩)
  | _ => .Pass ⟨0, 0, 0, 0⟩
abbrev FnQ (K : PySem.W.Frag) (x q : PySem.Str) (st : Stmt) (f : Addr) (fd : FuncData) : Prop := FunD K x q (defArgs st) (defBody st) (defScope st) [] [] f fd
abbrev erL : List PySem.Str := ["PostError", "InvalidSize", "InvalidPlace", "DoublePlace", "InvalidNumber", "Conflict"]
theorem er_PostError : ("PostError" : PySem.Str) ∈ erL := by decide
theorem er_InvalidSize : ("InvalidSize" : PySem.Str) ∈ erL := by decide
theorem er_InvalidPlace : ("InvalidPlace" : PySem.Str) ∈ erL := by decide
theorem er_DoublePlace : ("DoublePlace" : PySem.Str) ∈ erL := by decide
theorem er_InvalidNumber : ("InvalidNumber" : PySem.Str) ∈ erL := by decide
theorem er_Conflict : ("Conflict" : PySem.Str) ∈ erL := by decide
abbrev s_ei : Stmt := clsS 6 0
abbrev N_ei : List PySem.Str := ["self", "value"]
theorem sc_ei : FnScope N_ei ["self", "value"] (defScope s_ei) := ⟨rfl, rfl, rfl, by decide +kernel, rfl, by decide +kernel, by decide +kernel⟩
theorem ok_ei {P : Program} {w : World} {K : PySem.W.Frag} {mg : PySem.Str → Option Value} {base : Heap} (E_ : ErrF K mg erL) {f : Addr} {fd : FuncData} (Fn : FnQ K "__init__" "PostError.__init__" s_ei f fd) : FnOk P w K mg base CX0 1 f fd ["self", "value"] (spEI K erL) :=
  Fn.ok sc_ei (fun vs H Q E h => spEI_len h) fun cdv A outer s H vs Q E hr h => ⟨_, PSs.nox (pss_one (ps_ost (pv 0) (pv 1))), ei_body E_ (fun _ _ q => q) h⟩
structure ClsF (K : PySem.W.Frag) (mg : PySem.Str → Option Value) : Prop where
  cl_Picture : Cls K (He.ga K "Picture")
  g_Picture : mg "Picture" = some (.ref (He.ga K "Picture"))
  na_Picture_dimension : NoAttr K (He.ga K "Picture") "dimension"
  na_Picture_words : NoAttr K (He.ga K "Picture") "words"
  na_Picture_seen_places : NoAttr K (He.ga K "Picture") "seen_places"
  na_Picture_hidden_places : NoAttr K (He.ga K "Picture") "hidden_places"
abbrev s_common_divisor : Stmt := topS 2
abbrev N_common_divisor : List PySem.Str := ["one", "other"]
theorem sc_common_divisor : FnScope N_common_divisor ["one", "other"] (defScope s_common_divisor) := ⟨rfl, rfl, rfl, by decide +kernel, rfl, by decide +kernel, by decide +kernel⟩
def sp_common_divisor (K : PySem.W.Frag) : Sp := (Psp2 rInt rInt rInt m_common_divisor)
theorem ok_common_divisor {P : Program} {w : World} {K : PySem.W.Frag} {mg : PySem.Str → Option Value} {base : Heap} (T : Txt mg) (L : ClsF K mg) (E_ : ErrF K mg erL) {f : Addr} {fd : FuncData} (Fn : FnP K "common_divisor" s_common_divisor f fd) : FnOk P w K mg base CX0 1 f fd ["one", "other"] (sp_common_divisor K) := by
  refine Fn.ok sc_common_divisor (fun vs H Q E h => Psp2_len h) (fun cdv A outer s H vs Q E hr h => ?_)
  obtain ⟨F, v_one, v_other, one, other, res, rfl, ex, r_one, r_other, hm, hQ⟩ := h
  have k := Cov.init ex
  generalize hc : Act.mk H F [] = c at k hQ
  unfold m_common_divisor at hm
  refine ⟨_, PSs.nox (pss_cons (ps_par (i := 0) (j := 1) (by rfl) sc_common_divisor.nd rfl rfl (by decide) rfl rfl (pa_cons (pe_callB call_abs (by rfl) T.b_abs (by decide +kernel) (pa_cons (pv 0) pa_nil)) (pa_cons (pe_callB call_abs (by rfl) T.b_abs (by decide +kernel) (pa_cons (pv 1) pa_nil)) pa_nil)) (by rfl)) (pss_cons (ps_while PassesOwn.never (pt_cmpR op_gt (pv 1) pe_int (nomark _)) (pss_one (ps_par (i := 0) (j := 1) (by rfl) sc_common_divisor.nd rfl rfl (by decide) rfl rfl (pa_cons (pv 1) (pa_cons (pe_op op_mod (pv 0) (pv 1)) pa_nil)) (by rfl)))) (pss_one (ps_ret (pv 0))))), ?_⟩
  show (_ : TS) _ [some v_one, some v_other] _
  obtain ⟨⟨one_n, other_n⟩, hx, hm⟩ := bind_some hm
  obtain ⟨hx, hy⟩ := oP2_some hx
  refine q_par (em_cb vc_abs (em_varf (i := 0) fl_int rfl r_one)) (em_cb vc_abs (em_varf (i := 1) fl_int rfl r_other)) hx hy k fun v_one v_other F H e k r_one r_other => ?_
  obtain ⟨one, ez_⟩ : ∃ z, z = one_n := ⟨_, rfl⟩; subst ez_
  obtain ⟨other, ez_⟩ : ∃ z, z = other_n := ⟨_, rfl⟩; subst ez_
  show (_ : TS) _ [some v_one, some v_other] _
  obtain ⟨g1_, hf, hm⟩ := bind_some hm
  refine sq ?_
  refine a_while (F := F) (c := c) hf (fun g σ1 F1 H1 => ∃ v_one v_other, σ1 = [some v_one, some v_other] ∧ Ex F F1 ∧ Cov c F1 [] H1 ∧ rInt.r F1 v_one g.1 ∧ rInt.r F1 v_other g.2) (fun g => []) ?_ ?_ ?_ ?_ ?_ ?_
  · exact ⟨v_one, v_other, rfl, Evl.Ex.refl _, k, r_one, r_other⟩
  · rintro ⟨one, other⟩ σ1 F H ⟨v_one, v_other, rfl, eL1, k, r_one, r_other⟩
    exact k
  · rintro ⟨one, other⟩ σ1 F H ⟨v_one, v_other, rfl, eL1, k, r_one, r_other⟩
    exact (et_test (em_op vo_gt (em_varf (i := 1) fl_int rfl r_other) em_int))
  · rintro ⟨one, other⟩ σ1 F1 H1 F H ⟨v_one, v_other, rfl, eL1, k, r_one, r_other⟩ e k
    exact ⟨_, _, rfl, eL1.trans e, k, rInt.up e r_one, rInt.up e r_other⟩
  · rintro ⟨one, other⟩ g2 σ1 F H ⟨v_one, v_other, rfl, eL1, k, r_one, r_other⟩ _ hm
    obtain ⟨⟨one_n, other_n⟩, hx, hm⟩ := bind_some hm
    obtain ⟨hx, hy⟩ := oP2_some hx
    refine a_par (em_varf (i := 1) fl_int rfl r_other) (em_op vo_mod (em_varf (i := 0) fl_int rfl r_one) (em_varf (i := 1) fl_int rfl r_other)) hx hy k fun v_one v_other F H e k r_one r_other => ?_
    obtain ⟨one, ez_⟩ : ∃ z, z = one_n := ⟨_, rfl⟩; subst ez_
    obtain ⟨other, ez_⟩ : ∃ z, z = other_n := ⟨_, rfl⟩; subst ez_
    have eL1 := eL1.trans e
    have hm := Option.some.inj hm
    subst hm
    exact ⟨F, v_one, v_other, rfl, eL1, k, r_one, r_other⟩
  obtain ⟨one, other⟩ := g1_
  rintro σ1 F H _ ⟨v_one, v_other, rfl, e, k, r_one, r_other⟩
  refine nxh ?_
  obtain ⟨rv, hv, hm⟩ := bind_some hm
  have hm := Option.some.inj hm
  cases hm
  exact a_ret (em_varf (i := 0) fl_int rfl r_one) hv k fun v F H e k r => hQ v F H k.dropAll r
abbrev s_divisor_of : Stmt := topS 3
abbrev N_divisor_of : List PySem.Str := ["values", "found", "value"]
theorem sc_divisor_of : FnScope N_divisor_of ["values"] (defScope s_divisor_of) := ⟨rfl, rfl, rfl, by decide +kernel, rfl, by decide +kernel, by decide +kernel⟩
def sp_divisor_of (K : PySem.W.Frag) : Sp := (Psp1 (rTup K rInt) rInt m_divisor_of)
theorem ok_divisor_of {P : Program} {w : World} {K : PySem.W.Frag} {mg : PySem.Str → Option Value} {base : Heap} (T : Txt mg) (L : ClsF K mg) (E_ : ErrF K mg erL) (C_common_divisor : Cal P w K mg base 1 "common_divisor" ["one", "other"] (sp_common_divisor K) (fun _ => True)) {f : Addr} {fd : FuncData} (Fn : FnP K "divisor_of" s_divisor_of f fd) : FnOk P w K mg base CX0 2 f fd ["values"] (sp_divisor_of K) := by
  obtain ⟨f_common_divisor, fd_common_divisor, G_common_divisor, g_common_divisor, kp_common_divisor, b_common_divisor, _⟩ := C_common_divisor.ex
  refine Fn.ok sc_divisor_of (fun vs H Q E h => Psp1_len h) (fun cdv A outer s H vs Q E hr h => ?_)
  obtain ⟨F, v_values, values, res, rfl, ex, r_values, hm, hQ⟩ := h
  have k := Cov.init ex
  generalize hc : Act.mk H F [] = c at k hQ
  unfold m_divisor_of at hm
  refine ⟨_, PSs.nox (pss_cons (ps_set (i := 1) sc_divisor_of.nd rfl (Or.inl rfl) pe_int) (pss_cons (ps_for PassesOwn.never rfl (pi_tupK K rfl (pv 0)) (pg_name (i := 2) sc_divisor_of.nd rfl (Or.inl rfl)) (pss_one (ps_set (i := 1) sc_divisor_of.nd rfl (Or.inl rfl) (pe_call G_common_divisor (hr.mono (by decide)) (by rfl) g_common_divisor kp_common_divisor b_common_divisor .nil pass0 (pa_cons (pv 1) (pa_cons (pv 2) pa_nil)))))) (pss_one (ps_ret (pv 1))))), ?_⟩
  show (_ : TS) _ [some v_values, none, none] _
  obtain ⟨found_n, hx, hm⟩ := bind_some hm
  refine q_set em_int hx k fun v_found F H e k r_found => ?_
  obtain ⟨found, ez_⟩ : ∃ z, z = found_n := ⟨_, rfl⟩; subst ez_
  show (_ : TS) _ [some v_values, some v_found, none] _
  have r_values := (rTup K rInt).up e r_values
  obtain ⟨l_, hl, hm⟩ := bind_some hm
  obtain ⟨g1_, hf, hm⟩ := bind_some hm
  refine sq ?_
  refine a_for (ei_tup (em_var (i := 0) rfl r_values)) hl k hf fun F H e k => ⟨fun g σ1 F1 H1 => ∃ v_found w_value, σ1 = [some v_values, some v_found, w_value] ∧ Ex F F1 ∧ Cov c F1 [] H1 ∧ rInt.r F1 v_found g, fun g => [], ?_, ?_, ?_, ?_⟩
  · exact ⟨v_found, _, rfl, Evl.Ex.refl _, k, rInt.up e r_found⟩
  · rintro g σ1 F1 H1 ⟨_, _, rfl, e1, k1, _⟩
    exact ⟨e1, k1⟩
  · rintro d v found g2 σ1 F1 H1 F H ⟨v_found, w_value, rfl, eL2, _, r_found⟩ e1 k rd hm
    have eL2 := eL2.trans e1
    have r_values := (rTup K rInt).up (e.trans eL2) r_values
    obtain ⟨value, ez_⟩ : ∃ z, z = d := ⟨_, rfl⟩; subst ez_
    obtain ⟨v_value, ez_⟩ : ∃ z, z = v := ⟨_, rfl⟩; subst ez_
    have r_value := rd
    refine gn (σ1 := [some v_values, some v_found, some v_value]) rfl ?_
    obtain ⟨found_n, hx, hm⟩ := bind_some hm
    refine a_set (em_Pcall2t (em_varf (i := 1) fl_int rfl r_found) (em_varf (i := 2) fl_int rfl r_value)) hx k fun v_found F H e k r_found => ?_
    obtain ⟨found, ez_⟩ : ∃ z, z = found_n := ⟨_, rfl⟩; subst ez_
    have r_values := (rTup K rInt).up e r_values
    have eL2 := eL2.trans e
    have hm := Option.some.inj hm
    subst hm
    exact ⟨F, v_found, _, rfl, eL2, k, r_found⟩
  obtain ⟨found, ez_⟩ : ∃ z, z = g1_ := ⟨_, rfl⟩; subst ez_
  rintro σ1 F H ⟨v_found, w_value, rfl, e1, k, r_found⟩
  have r_values := (rTup K rInt).up (e.trans e1) r_values
  refine nxh ?_
  obtain ⟨rv, hv, hm⟩ := bind_some hm
  have hm := Option.some.inj hm
  cases hm
  exact a_ret (em_varf (i := 1) fl_int rfl r_found) hv k fun v F H e k r => hQ v F H k.dropAll r
abbrev s_plus : Stmt := topS 4
abbrev N_plus : List PySem.Str := ["one", "other", "k"]
theorem sc_plus : FnScope N_plus ["one", "other"] (defScope s_plus) := ⟨rfl, rfl, rfl, by decide +kernel, rfl, by decide +kernel, by decide +kernel⟩
def sp_plus (K : PySem.W.Frag) : Sp := (Psp2 (rTup K rInt) (rTup K rInt) (rTup K rInt) m_plus)
theorem ok_plus {P : Program} {w : World} {K : PySem.W.Frag} {mg : PySem.Str → Option Value} {base : Heap} (T : Txt mg) (L : ClsF K mg) (E_ : ErrF K mg erL) {f : Addr} {fd : FuncData} (Fn : FnP K "plus" s_plus f fd) : FnOk P w K mg base CX0 1 f fd ["one", "other"] (sp_plus K) := by
  refine Fn.ok sc_plus (fun vs H Q E h => Psp2_len h) (fun cdv A outer s H vs Q E hr h => ?_)
  obtain ⟨F, v_one, v_other, one, other, res, rfl, ex, r_one, r_other, hm, hQ⟩ := h
  have k := Cov.init ex
  generalize hc : Act.mk H F [] = c at k hQ
  unfold m_plus at hm
  refine ⟨_, PSs.nox (pss_one (ps_ret (pe_callTy (call_tuple_ofK K rfl) (by rfl) T.b_tuple (by decide +kernel) (pa_cons (pe_lc (own := [("k", 2)]) (g := (gName 2)) (tt := tYes) rfl sc_plus.nd (pi_range1 (by rfl) T.b_range (pa_cons (pe_callB (call_len_seqK K rfl) (by rfl) T.b_len PySem.boot_len (pa_cons (pv 0) pa_nil)) pa_nil)) (blkOk_by (N := N_plus) (sc := defScope s_plus) (by decide +kernel)) (fun _ _ _ _ _ => (pg_name (i := 2) sc_plus.nd rfl (Or.inl rfl))) (fun _ _ _ _ _ => pts_nil) (fun _ _ _ _ _ => (pe_op op_add (pe_ix (ix_tupK K rfl) (pv 0) (pv 2) (fun _ _ => rfl)) (pe_ix (ix_tupK K rfl) (pv 1) (pv 2) (fun _ _ => rfl))))) pa_nil)))), ?_⟩
  show (_ : TS) _ [some v_one, some v_other, none] _
  obtain ⟨rv, hv, hm⟩ := bind_some hm
  have hm := Option.some.inj hm
  cases hm
  exact a_ret (el_tuple ((ef_lc (K := K) (t := yes) (f := fun (k_ : Int) => (o2 addG (o2 ixG (some one) (some k_)) (o2 ixG (some other) (some k_)))) (S := (fun d F1 σ2 => ∃ v_k_, σ2 = [some v_one, some v_other, some v_k_] ∧ rInt.r F1 v_k_ d)) (ei_rng1 (et_len (em_var (i := 0) rfl r_one))) (gt_name (fun _ => rfl)) (fun d F1 σ2 hs => by obtain ⟨_, rfl, _⟩ := hs; rfl) (fun _ _ _ _ _ => et_yes) (by intro k_ F1 σ2 e1 hs; obtain ⟨v_k_, rfl, r_k_⟩ := hs; have r_one := (rTup K rInt).up e1 r_one; have r_other := (rTup K rInt).up e1 r_other; exact (em_op vo_add (et_ix (em_var (i := 0) rfl r_one) (em_varf (i := 2) fl_int rfl r_k_)) (et_ix (em_var (i := 1) rfl r_other) (em_varf (i := 2) fl_int rfl r_k_)))))).em.el) hv k fun v F H e k r => hQ v F H k.dropAll r
abbrev s_power : Stmt := topS 13
abbrev N_power : List PySem.Str := ["prime", "size"]
theorem sc_power : FnScope N_power ["prime", "size"] (defScope s_power) := ⟨rfl, rfl, rfl, by decide +kernel, rfl, by decide +kernel, by decide +kernel⟩
def sp_power (K : PySem.W.Frag) : Sp := (Psp2 rInt rInt rInt m_power)
theorem ok_power {P : Program} {w : World} {K : PySem.W.Frag} {mg : PySem.Str → Option Value} {base : Heap} (T : Txt mg) (L : ClsF K mg) (E_ : ErrF K mg erL) {f : Addr} {fd : FuncData} (Fn : FnP K "power" s_power f fd) : FnOk P w K mg base CX0 1 f fd ["prime", "size"] (sp_power K) := by
  refine Fn.ok sc_power (fun vs H Q E h => Psp2_len h) (fun cdv A outer s H vs Q E hr h => ?_)
  obtain ⟨F, v_prime, v_size, prime, size, res, rfl, ex, r_prime, r_size, hm, hQ⟩ := h
  have k := Cov.init ex
  generalize hc : Act.mk H F [] = c at k hQ
  unfold m_power at hm
  refine ⟨_, PSs.nox (pss_one (ps_ret (pe_ifExp (pt_cmpR op_eq (pv 1) pe_int (nomark _)) (pe_op op_mulI (pv 0) (pv 0)) (pe_op op_mulI (pe_op op_mulI (pv 0) (pv 0)) (pv 0))))), ?_⟩
  show (_ : TS) _ [some v_prime, some v_size] _
  obtain ⟨rv, hv, hm⟩ := bind_some hm
  have hm := Option.some.inj hm
  cases hm
  exact a_ret (em_if (et_test (em_op vo_eqI (em_varf (i := 1) fl_int rfl r_size) em_int)) (em_op vo_mul (em_varf (i := 0) fl_int rfl r_prime) (em_varf (i := 0) fl_int rfl r_prime)) (em_op vo_mul (em_op vo_mul (em_varf (i := 0) fl_int rfl r_prime) (em_varf (i := 0) fl_int rfl r_prime)) (em_varf (i := 0) fl_int rfl r_prime))) hv k fun v F H e k r => hQ v F H k.dropAll r
abbrev s_remainders_by : Stmt := topS 14
abbrev N_remainders_by : List PySem.Str := ["place", "prime", "coordinate"]
theorem sc_remainders_by : FnScope N_remainders_by ["place", "prime"] (defScope s_remainders_by) := ⟨rfl, rfl, rfl, by decide +kernel, rfl, by decide +kernel, by decide +kernel⟩
def sp_remainders_by (K : PySem.W.Frag) : Sp := (Psp2 (rTup K rInt) rInt (rTup K rInt) m_remainders_by)
theorem ok_remainders_by {P : Program} {w : World} {K : PySem.W.Frag} {mg : PySem.Str → Option Value} {base : Heap} (T : Txt mg) (L : ClsF K mg) (E_ : ErrF K mg erL) {f : Addr} {fd : FuncData} (Fn : FnP K "remainders_by" s_remainders_by f fd) : FnOk P w K mg base CX0 1 f fd ["place", "prime"] (sp_remainders_by K) := by
  refine Fn.ok sc_remainders_by (fun vs H Q E h => Psp2_len h) (fun cdv A outer s H vs Q E hr h => ?_)
  obtain ⟨F, v_place, v_prime, place, prime, res, rfl, ex, r_place, r_prime, hm, hQ⟩ := h
  have k := Cov.init ex
  generalize hc : Act.mk H F [] = c at k hQ
  unfold m_remainders_by at hm
  refine ⟨_, PSs.nox (pss_one (ps_ret (pe_callTy (call_tuple_ofK K rfl) (by rfl) T.b_tuple (by decide +kernel) (pa_cons (pe_lc (own := [("coordinate", 2)]) (g := (gName 2)) (tt := tYes) rfl sc_remainders_by.nd (pi_tupK K rfl (pv 0)) (blkOk_by (N := N_remainders_by) (sc := defScope s_remainders_by) (by decide +kernel)) (fun _ _ _ _ _ => (pg_name (i := 2) sc_remainders_by.nd rfl (Or.inl rfl))) (fun _ _ _ _ _ => pts_nil) (fun _ _ _ _ _ => (pe_op op_mod (pe_callTy call_int1 (by rfl) T.b_int (by decide +kernel) (pa_cons (pv 2) pa_nil)) (pv 1)))) pa_nil)))), ?_⟩
  show (_ : TS) _ [some v_place, some v_prime, none] _
  obtain ⟨rv, hv, hm⟩ := bind_some hm
  have hm := Option.some.inj hm
  cases hm
  exact a_ret (el_tuple ((ef_lc (K := K) (t := yes) (f := fun (coordinate : Int) => (o2 modG (some coordinate) (some prime))) (S := (fun d F1 σ2 => ∃ v_coordinate, σ2 = [some v_place, some v_prime, some v_coordinate] ∧ rInt.r F1 v_coordinate d)) (ei_tup (em_var (i := 0) rfl r_place)) (gt_name (fun _ => rfl)) (fun d F1 σ2 hs => by obtain ⟨_, rfl, _⟩ := hs; rfl) (fun _ _ _ _ _ => et_yes) (by intro coordinate F1 σ2 e1 hs; obtain ⟨v_coordinate, rfl, r_coordinate⟩ := hs; have r_place := (rTup K rInt).up e1 r_place; exact (em_op vo_mod (em_cb vc_int (em_varf (i := 2) fl_int rfl r_coordinate)) (em_varf (i := 1) fl_int rfl r_prime))))).em.el) hv k fun v F H e k r => hQ v F H k.dropAll r
abbrev s_numbered : Stmt := topS 15
abbrev N_numbered : List PySem.Str := ["size", "prime", "k", "found"]
theorem sc_numbered : FnScope N_numbered ["size", "prime", "k"] (defScope s_numbered) := ⟨rfl, rfl, rfl, by decide +kernel, rfl, by decide +kernel, by decide +kernel⟩
def sp_numbered (K : PySem.W.Frag) : Sp := (Psp3 rInt rInt rInt (rTup K rInt) m_numbered)
theorem ok_numbered {P : Program} {w : World} {K : PySem.W.Frag} {mg : PySem.Str → Option Value} {base : Heap} (T : Txt mg) (L : ClsF K mg) (E_ : ErrF K mg erL) {f : Addr} {fd : FuncData} (Fn : FnP K "numbered" s_numbered f fd) : FnOk P w K mg base CX0 1 f fd ["size", "prime", "k"] (sp_numbered K) := by
  refine Fn.ok sc_numbered (fun vs H Q E h => Psp3_len h) (fun cdv A outer s H vs Q E hr h => ?_)
  obtain ⟨F, v_size, v_prime, v_k_, size, prime, k_, res, rfl, ex, r_size, r_prime, r_k_, hm, hQ⟩ := h
  have k := Cov.init ex
  generalize hc : Act.mk H F [] = c at k hQ
  unfold m_numbered at hm
  refine ⟨_, PSs.nox (pss_cons (ps_set (i := 3) sc_numbered.nd rfl (Or.inl rfl) (pe_tup (pa_cons (pe_op op_mod (pe_op op_fdivF (pe_callTy call_int1 (by rfl) T.b_int (by decide +kernel) (pa_cons (pv 2) pa_nil)) (pv 1)) (pv 1)) (pa_cons (pe_op op_mod (pe_callTy call_int1 (by rfl) T.b_int (by decide +kernel) (pa_cons (pv 2) pa_nil)) (pv 1)) pa_nil)))) (pss_cons (ps_if (pt_cmpR op_eq (pv 0) pe_int (nomark _)) (pss_one (ps_ret (pe_op (op_catAK K rfl) (pe_tup (pa_cons (pe_op op_fdivF (pe_callTy call_int1 (by rfl) T.b_int (by decide +kernel) (pa_cons (pv 2) pa_nil)) (pe_op op_mulI (pv 1) (pv 1))) pa_nil)) (pv 3)))) pss_nil) (pss_one (ps_ret (pv 3))))), ?_⟩
  show (_ : TS) _ [some v_size, some v_prime, some v_k_, none] _
  obtain ⟨found_n, hx, hm⟩ := bind_some hm
  refine q_set (em_tup (K := K) (ea_cons (em_op vo_mod (em_op vo_div (em_cb vc_int (em_varf (i := 2) fl_int rfl r_k_)) (em_varf (i := 1) fl_int rfl r_prime)) (em_varf (i := 1) fl_int rfl r_prime)) (ea_cons (em_op vo_mod (em_cb vc_int (em_varf (i := 2) fl_int rfl r_k_)) (em_varf (i := 1) fl_int rfl r_prime)) ea_nil))) hx k fun v_found F H e k r_found => ?_
  obtain ⟨found, ez_⟩ : ∃ z, z = found_n := ⟨_, rfl⟩; subst ez_
  show (_ : TS) _ [some v_size, some v_prime, some v_k_, some v_found] _
  obtain ⟨b, hb, hm⟩ := bind_some hm
  refine q_ife (et_test (em_op vo_eqI (em_varf (i := 0) fl_int rfl r_size) em_int)) hb k (fun eb F H e k => ?_) (fun eb F H e k => ?_)
  ·
    subst eb
    have hm := hT hm
    have r_found := (rTup K rInt).up e r_found
    obtain ⟨rv, hv, hm⟩ := bind_some hm
    have hm := Option.some.inj hm
    cases hm
    exact a_ret (em_catT (em_tup (K := K) (ea_cons (em_op vo_div (em_cb vc_int (em_varf (i := 2) fl_int rfl r_k_)) (em_op vo_mul (em_varf (i := 1) fl_int rfl r_prime) (em_varf (i := 1) fl_int rfl r_prime))) ea_nil)) (em_var (i := 3) rfl r_found)) hv k fun v F H e k r => hQ v F H k.dropAll r
  ·
    subst eb
    have hm := hF hm
    have r_found := (rTup K rInt).up e r_found
    obtain ⟨rv, hv, hm⟩ := bind_some hm
    have hm := Option.some.inj hm
    cases hm
    exact a_ret (em_var (i := 3) rfl r_found) hv k fun v F H e k r => hQ v F H k.dropAll r
abbrev s_all_remainders : Stmt := topS 16
abbrev N_all_remainders : List PySem.Str := ["size", "prime", "k"]
theorem sc_all_remainders : FnScope N_all_remainders ["size", "prime"] (defScope s_all_remainders) := ⟨rfl, rfl, rfl, by decide +kernel, rfl, by decide +kernel, by decide +kernel⟩
def sp_all_remainders (K : PySem.W.Frag) : Sp := (Psp2 rInt rInt (rLst (rTup K rInt)) m_all_remainders)
theorem ok_all_remainders {P : Program} {w : World} {K : PySem.W.Frag} {mg : PySem.Str → Option Value} {base : Heap} (T : Txt mg) (L : ClsF K mg) (E_ : ErrF K mg erL) (C_power : Cal P w K mg base 1 "power" ["prime", "size"] (sp_power K) (fun _ => True)) (C_numbered : Cal P w K mg base 1 "numbered" ["size", "prime", "k"] (sp_numbered K) (fun _ => True)) {f : Addr} {fd : FuncData} (Fn : FnP K "all_remainders" s_all_remainders f fd) : FnOk P w K mg base CX0 2 f fd ["size", "prime"] (sp_all_remainders K) := by
  obtain ⟨f_power, fd_power, G_power, g_power, kp_power, b_power, _⟩ := C_power.ex
  obtain ⟨f_numbered, fd_numbered, G_numbered, g_numbered, kp_numbered, b_numbered, _⟩ := C_numbered.ex
  refine Fn.ok sc_all_remainders (fun vs H Q E h => Psp2_len h) (fun cdv A outer s H vs Q E hr h => ?_)
  obtain ⟨F, v_size, v_prime, size, prime, res, rfl, ex, r_size, r_prime, hm, hQ⟩ := h
  have k := Cov.init ex
  generalize hc : Act.mk H F [] = c at k hQ
  unfold m_all_remainders at hm
  refine ⟨_, PSs.nox (pss_one (ps_ret (pe_lc (own := [("k", 2)]) (g := (gName 2)) (tt := tYes) rfl sc_all_remainders.nd (pi_range1 (by rfl) T.b_range (pa_cons (pe_call G_power (hr.mono (by decide)) (by rfl) g_power kp_power b_power .nil pass0 (pa_cons (pv 1) (pa_cons (pv 0) pa_nil))) pa_nil)) (blkOk_by (N := N_all_remainders) (sc := defScope s_all_remainders) (by decide +kernel)) (fun _ _ _ _ _ => (pg_name (i := 2) sc_all_remainders.nd rfl (Or.inl rfl))) (fun _ _ _ _ _ => pts_nil) (fun _ _ _ _ _ => (pe_call G_numbered (hr.mono (by decide)) (by rfl) g_numbered kp_numbered b_numbered .nil pass0 (pa_cons (pv 0) (pa_cons (pv 1) (pa_cons (pv 2) pa_nil)))))))), ?_⟩
  show (_ : TS) _ [some v_size, some v_prime, none] _
  obtain ⟨rv, hv, hm⟩ := bind_some hm
  have hm := Option.some.inj hm
  cases hm
  exact a_ret ((ef_lc (K := K) (t := yes) (f := fun (k_ : Int) => (m_numbered size prime k_)) (S := (fun d F1 σ2 => ∃ v_k_, σ2 = [some v_size, some v_prime, some v_k_] ∧ rInt.r F1 v_k_ d)) (ei_rng1 (em_Pcall2t (em_varf (i := 1) fl_int rfl r_prime) (em_varf (i := 0) fl_int rfl r_size))) (gt_name (fun _ => rfl)) (fun d F1 σ2 hs => by obtain ⟨_, rfl, _⟩ := hs; rfl) (fun _ _ _ _ _ => et_yes) (by intro k_ F1 σ2 e1 hs; obtain ⟨v_k_, rfl, r_k_⟩ := hs; exact (em_Pcall3t (em_varf (i := 0) fl_int rfl r_size) (em_varf (i := 1) fl_int rfl r_prime) (em_varf (i := 2) fl_int rfl r_k_))))).em hv k fun v F H e k r => hQ v F H k.dropAll r
abbrev s_all_seen : Stmt := topS 17
abbrev N_all_seen : List PySem.Str := ["places", "shift", "place"]
theorem sc_all_seen : FnScope N_all_seen ["places", "shift"] (defScope s_all_seen) := ⟨rfl, rfl, rfl, by decide +kernel, rfl, by decide +kernel, by decide +kernel⟩
def sp_all_seen (K : PySem.W.Frag) : Sp := (Psp2 (rLst (rTup K rInt)) (rTup K rInt) rBool m_all_seen)
theorem ok_all_seen {P : Program} {w : World} {K : PySem.W.Frag} {mg : PySem.Str → Option Value} {base : Heap} (T : Txt mg) (L : ClsF K mg) (E_ : ErrF K mg erL) (C_divisor_of : Cal P w K mg base 2 "divisor_of" ["values"] (sp_divisor_of K) (fun _ => True)) (C_plus : Cal P w K mg base 1 "plus" ["one", "other"] (sp_plus K) (fun _ => True)) {f : Addr} {fd : FuncData} (Fn : FnP K "all_seen" s_all_seen f fd) : FnOk P w K mg base CX0 3 f fd ["places", "shift"] (sp_all_seen K) := by
  obtain ⟨f_divisor_of, fd_divisor_of, G_divisor_of, g_divisor_of, kp_divisor_of, b_divisor_of, _⟩ := C_divisor_of.ex
  obtain ⟨f_plus, fd_plus, G_plus, g_plus, kp_plus, b_plus, _⟩ := C_plus.ex
  refine Fn.ok sc_all_seen (fun vs H Q E h => Psp2_len h) (fun cdv A outer s H vs Q E hr h => ?_)
  obtain ⟨F, v_places, v_shift, places, shift, res, rfl, ex, r_places, r_shift, hm, hQ⟩ := h
  have k := Cov.init ex
  generalize hc : Act.mk H F [] = c at k hQ
  unfold m_all_seen at hm
  refine ⟨_, PSs.nox (pss_cons (ps_for PassesOwn.never rfl (pi_listK K rfl (pv 0)) (pg_name (i := 2) sc_all_seen.nd rfl (Or.inl rfl)) (pss_one (ps_if (pt_cmpR op_ne (pe_call G_divisor_of (hr.mono (by decide)) (by rfl) g_divisor_of kp_divisor_of b_divisor_of .nil pass0 (pa_cons (pe_call G_plus (hr.mono (by decide)) (by rfl) g_plus kp_plus b_plus .nil pass0 (pa_cons (pv 2) (pa_cons (pv 1) pa_nil))) pa_nil)) pe_int (nomark _)) (pss_one (ps_ret pe_bl)) pss_nil))) (pss_one (ps_ret pe_bl))), ?_⟩
  show (_ : TS) _ [some v_places, some v_shift, none] _
  obtain ⟨l_, hl, hm⟩ := bind_some hm
  obtain ⟨out1, hf, hm⟩ := bind_some hm
  have hm1 := hm
  refine sq ?_
  refine a_loop (ei_list (em_var (i := 0) rfl r_places)) hl k hf fun F H e k => ⟨fun g σ1 F1 H1 => ∃ w_place, σ1 = [some v_places, some v_shift, w_place] ∧ Ex F F1 ∧ Cov c F1 [] H1, fun g => [], ?_, ?_, ?_, ?_⟩
  · exact ⟨_, rfl, Evl.Ex.refl _, k⟩
  · rintro g σ1 F1 H1 ⟨_, rfl, e1, k1⟩
    exact ⟨e1, k1⟩
  · rintro d v ⟨⟩ oo1 σ1 F1 H1 F H ⟨w_place, rfl, eL3, _⟩ e1 k rd hm hret1 hbrk1
    have eL3 := eL3.trans e1
    have r_places := (rLst (rTup K rInt)).up (e.trans eL3) r_places
    have r_shift := (rTup K rInt).up (e.trans eL3) r_shift
    obtain ⟨place, ez_⟩ : ∃ z, z = d := ⟨_, rfl⟩; subst ez_
    obtain ⟨v_place, ez_⟩ : ∃ z, z = v := ⟨_, rfl⟩; subst ez_
    have r_place := rd
    refine gn (σ1 := [some v_places, some v_shift, some v_place]) rfl ?_
    obtain ⟨b, hb, hm⟩ := bind_some hm
    refine a_if (et_test (em_op vo_neI (em_Pcall1 (em_Pcall2t (em_var (i := 2) rfl r_place) (em_var (i := 1) rfl r_shift))) em_int)) hb k (fun eb F H e k => ?_) (fun eb F H e k => ?_)
    ·
      subst eb
      have hm := hT hm
      have r_places := (rLst (rTup K rInt)).up e r_places
      have r_shift := (rTup K rInt).up e r_shift
      have r_place := (rTup K rInt).up e r_place
      have eL3 := eL3.trans e
      obtain ⟨rv, hv, hm⟩ := bind_some hm
      have hm := Option.some.inj hm
      subst hm
      have ho1 := hret1 _ rfl
      rw [ho1] at hm1
      have hm := Option.some.inj hm1
      cases hm
      exact a_ret em_bl hv k fun v F H e k r => hQ v F H k.dropAll r
    ·
      subst eb
      have hm := hF hm
      have r_places := (rLst (rTup K rInt)).up e r_places
      have r_shift := (rTup K rInt).up e r_shift
      have r_place := (rTup K rInt).up e r_place
      have eL3 := eL3.trans e
      show Ends.nx _ _ _
      have hm := Option.some.inj hm
      subst hm
      exact ⟨F, _, rfl, _, rfl, eL3, k⟩
  rintro ⟨⟩ σ1 F H eo ⟨w_place, rfl, e1, k⟩
  subst eo
  have r_places := (rLst (rTup K rInt)).up (e.trans e1) r_places
  have r_shift := (rTup K rInt).up (e.trans e1) r_shift
  refine nxh ?_
  obtain ⟨rv, hv, hm⟩ := bind_some hm
  have hm := Option.some.inj hm
  cases hm
  exact a_ret em_bl hv k fun v F H e k r => hQ v F H k.dropAll r
abbrev s_is_shown : Stmt := topS 19
abbrev N_is_shown : List PySem.Str := ["seen", "hidden", "shift", "place"]
theorem sc_is_shown : FnScope N_is_shown ["seen", "hidden", "shift"] (defScope s_is_shown) := ⟨rfl, rfl, rfl, by decide +kernel, rfl, by decide +kernel, by decide +kernel⟩
def sp_is_shown (K : PySem.W.Frag) : Sp := (Psp3 (rLst (rTup K rInt)) (rLst (rTup K rInt)) (rTup K rInt) rBool m_is_shown)
theorem ok_is_shown {P : Program} {w : World} {K : PySem.W.Frag} {mg : PySem.Str → Option Value} {base : Heap} (T : Txt mg) (L : ClsF K mg) (E_ : ErrF K mg erL) (C_divisor_of : Cal P w K mg base 2 "divisor_of" ["values"] (sp_divisor_of K) (fun _ => True)) (C_plus : Cal P w K mg base 1 "plus" ["one", "other"] (sp_plus K) (fun _ => True)) (C_all_seen : Cal P w K mg base 3 "all_seen" ["places", "shift"] (sp_all_seen K) (fun _ => True)) {f : Addr} {fd : FuncData} (Fn : FnP K "is_shown" s_is_shown f fd) : FnOk P w K mg base CX0 4 f fd ["seen", "hidden", "shift"] (sp_is_shown K) := by
  obtain ⟨f_divisor_of, fd_divisor_of, G_divisor_of, g_divisor_of, kp_divisor_of, b_divisor_of, _⟩ := C_divisor_of.ex
  obtain ⟨f_plus, fd_plus, G_plus, g_plus, kp_plus, b_plus, _⟩ := C_plus.ex
  obtain ⟨f_all_seen, fd_all_seen, G_all_seen, g_all_seen, kp_all_seen, b_all_seen, _⟩ := C_all_seen.ex
  refine Fn.ok sc_is_shown (fun vs H Q E h => Psp3_len h) (fun cdv A outer s H vs Q E hr h => ?_)
  obtain ⟨F, v_seen, v_hidden, v_shift, seen, hidden, shift, res, rfl, ex, r_seen, r_hidden, r_shift, hm, hQ⟩ := h
  have k := Cov.init ex
  generalize hc : Act.mk H F [] = c at k hQ
  unfold m_is_shown at hm
  refine ⟨_, PSs.nox (pss_cons (ps_if (pt_not (pt_val (pe_call G_all_seen (hr.mono (by decide)) (by rfl) g_all_seen kp_all_seen b_all_seen .nil pass0 (pa_cons (pv 0) (pa_cons (pv 2) pa_nil))))) (pss_one (ps_ret pe_bl)) pss_nil) (pss_cons (ps_for PassesOwn.never rfl (pi_listK K rfl (pv 1)) (pg_name (i := 3) sc_is_shown.nd rfl (Or.inl rfl)) (pss_one (ps_if (pt_cmpR op_eq (pe_call G_divisor_of (hr.mono (by decide)) (by rfl) g_divisor_of kp_divisor_of b_divisor_of .nil pass0 (pa_cons (pe_call G_plus (hr.mono (by decide)) (by rfl) g_plus kp_plus b_plus .nil pass0 (pa_cons (pv 3) (pa_cons (pv 2) pa_nil))) pa_nil)) pe_int (nomark _)) (pss_one (ps_ret pe_bl)) pss_nil))) (pss_one (ps_ret pe_bl)))), ?_⟩
  show (_ : TS) _ [some v_seen, some v_hidden, some v_shift, none] _
  obtain ⟨b, hb, hm⟩ := bind_some hm
  refine q_ife (et_not (et_B (em_Pcall2t (em_var (i := 0) rfl r_seen) (em_var (i := 2) rfl r_shift)))) hb k (fun eb F H e k => ?_) (fun eb F H e k => ?_)
  ·
    subst eb
    have hm := hT hm
    have r_seen := (rLst (rTup K rInt)).up e r_seen
    have r_hidden := (rLst (rTup K rInt)).up e r_hidden
    have r_shift := (rTup K rInt).up e r_shift
    obtain ⟨rv, hv, hm⟩ := bind_some hm
    have hm := Option.some.inj hm
    cases hm
    exact a_ret em_bl hv k fun v F H e k r => hQ v F H k.dropAll r
  ·
    subst eb
    have hm := hF hm
    have r_seen := (rLst (rTup K rInt)).up e r_seen
    have r_hidden := (rLst (rTup K rInt)).up e r_hidden
    have r_shift := (rTup K rInt).up e r_shift
    obtain ⟨l_, hl, hm⟩ := bind_some hm
    obtain ⟨out1, hf, hm⟩ := bind_some hm
    have hm1 := hm
    refine sq ?_
    refine a_loop (ei_list (em_var (i := 1) rfl r_hidden)) hl k hf fun F H e k => ⟨fun g σ1 F1 H1 => ∃ w_place, σ1 = [some v_seen, some v_hidden, some v_shift, w_place] ∧ Ex F F1 ∧ Cov c F1 [] H1, fun g => [], ?_, ?_, ?_, ?_⟩
    · exact ⟨_, rfl, Evl.Ex.refl _, k⟩
    · rintro g σ1 F1 H1 ⟨_, rfl, e1, k1⟩
      exact ⟨e1, k1⟩
    · rintro d v ⟨⟩ oo1 σ1 F1 H1 F H ⟨w_place, rfl, eL4, _⟩ e1 k rd hm hret1 hbrk1
      have eL4 := eL4.trans e1
      have r_seen := (rLst (rTup K rInt)).up (e.trans eL4) r_seen
      have r_hidden := (rLst (rTup K rInt)).up (e.trans eL4) r_hidden
      have r_shift := (rTup K rInt).up (e.trans eL4) r_shift
      obtain ⟨place, ez_⟩ : ∃ z, z = d := ⟨_, rfl⟩; subst ez_
      obtain ⟨v_place, ez_⟩ : ∃ z, z = v := ⟨_, rfl⟩; subst ez_
      have r_place := rd
      refine gn (σ1 := [some v_seen, some v_hidden, some v_shift, some v_place]) rfl ?_
      obtain ⟨b, hb, hm⟩ := bind_some hm
      refine a_if (et_test (em_op vo_eqI (em_Pcall1 (em_Pcall2t (em_var (i := 3) rfl r_place) (em_var (i := 2) rfl r_shift))) em_int)) hb k (fun eb F H e k => ?_) (fun eb F H e k => ?_)
      ·
        subst eb
        have hm := hT hm
        have r_seen := (rLst (rTup K rInt)).up e r_seen
        have r_hidden := (rLst (rTup K rInt)).up e r_hidden
        have r_shift := (rTup K rInt).up e r_shift
        have r_place := (rTup K rInt).up e r_place
        have eL4 := eL4.trans e
        obtain ⟨rv, hv, hm⟩ := bind_some hm
        have hm := Option.some.inj hm
        subst hm
        have ho1 := hret1 _ rfl
        rw [ho1] at hm1
        have hm := Option.some.inj hm1
        cases hm
        exact a_ret em_bl hv k fun v F H e k r => hQ v F H k.dropAll r
      ·
        subst eb
        have hm := hF hm
        have r_seen := (rLst (rTup K rInt)).up e r_seen
        have r_hidden := (rLst (rTup K rInt)).up e r_hidden
        have r_shift := (rTup K rInt).up e r_shift
        have r_place := (rTup K rInt).up e r_place
        have eL4 := eL4.trans e
        show Ends.nx _ _ _
        have hm := Option.some.inj hm
        subst hm
        exact ⟨F, _, rfl, _, rfl, eL4, k⟩
    rintro ⟨⟩ σ1 F H eo ⟨w_place, rfl, e1, k⟩
    subst eo
    have r_seen := (rLst (rTup K rInt)).up (e.trans e1) r_seen
    have r_hidden := (rLst (rTup K rInt)).up (e.trans e1) r_hidden
    have r_shift := (rTup K rInt).up (e.trans e1) r_shift
    refine nxh ?_
    obtain ⟨rv, hv, hm⟩ := bind_some hm
    have hm := Option.some.inj hm
    cases hm
    exact a_ret em_bl hv k fun v F H e k r => hQ v F H k.dropAll r
abbrev s_Picture_size : Stmt := clsS 25 1
abbrev N_Picture_size : List PySem.Str := ["self"]
theorem sc_Picture_size : FnScope N_Picture_size ["self"] (defScope s_Picture_size) := ⟨rfl, rfl, rfl, by decide +kernel, rfl, by decide +kernel, by decide +kernel⟩
def sp_Picture_size (K : PySem.W.Frag) : Sp := (Psp1 (rO4 (He.ga K "Picture") "dimension" "words" "seen_places" "hidden_places" rInt (rDic rStr) (rLst (rTup K rInt)) (rLst (rTup K rInt))) rInt m_Picture_size)
theorem ok_Picture_size {P : Program} {w : World} {K : PySem.W.Frag} {mg : PySem.Str → Option Value} {base : Heap} (T : Txt mg) (L : ClsF K mg) (E_ : ErrF K mg erL) {f : Addr} {fd : FuncData} (Fn : FnQ K "size" "Picture.size" s_Picture_size f fd) : FnOk P w K mg base CX0 1 f fd ["self"] (sp_Picture_size K) := by
  refine Fn.ok sc_Picture_size (fun vs H Q E h => Psp1_len h) (fun cdv A outer s H vs Q E hr h => ?_)
  obtain ⟨F, v_self, self, res, rfl, ex, r_self, hm, hQ⟩ := h
  have k := Cov.init ex
  generalize hc : Act.mk H F [] = c at k hQ
  unfold m_Picture_size at hm
  refine ⟨_, PSs.nox (pss_one (ps_ret (pe_fldK K rfl (pv 0) (by rfl)))), ?_⟩
  show (_ : TS) _ [some v_self] _
  obtain ⟨rv, hv, hm⟩ := bind_some hm
  have hm := Option.some.inj hm
  cases hm
  exact a_ret (em_fld4_0 L.cl_Picture L.na_Picture_dimension (em_var (i := 0) rfl r_self)) hv k fun v F H e k r => hQ v F H k.dropAll r
abbrev s_Picture_seen : Stmt := clsS 25 2
abbrev N_Picture_seen : List PySem.Str := ["self"]
theorem sc_Picture_seen : FnScope N_Picture_seen ["self"] (defScope s_Picture_seen) := ⟨rfl, rfl, rfl, by decide +kernel, rfl, by decide +kernel, by decide +kernel⟩
def sp_Picture_seen (K : PySem.W.Frag) : Sp := (Psp1 (rO4 (He.ga K "Picture") "dimension" "words" "seen_places" "hidden_places" rInt (rDic rStr) (rLst (rTup K rInt)) (rLst (rTup K rInt))) (rLst (rTup K rInt)) m_Picture_seen)
theorem ok_Picture_seen {P : Program} {w : World} {K : PySem.W.Frag} {mg : PySem.Str → Option Value} {base : Heap} (T : Txt mg) (L : ClsF K mg) (E_ : ErrF K mg erL) {f : Addr} {fd : FuncData} (Fn : FnQ K "seen" "Picture.seen" s_Picture_seen f fd) : FnOk P w K mg base CX0 1 f fd ["self"] (sp_Picture_seen K) := by
  refine Fn.ok sc_Picture_seen (fun vs H Q E h => Psp1_len h) (fun cdv A outer s H vs Q E hr h => ?_)
  obtain ⟨F, v_self, self, res, rfl, ex, r_self, hm, hQ⟩ := h
  have k := Cov.init ex
  generalize hc : Act.mk H F [] = c at k hQ
  unfold m_Picture_seen at hm
  refine ⟨_, PSs.nox (pss_one (ps_ret (pe_callTy (call_list_ofK K rfl) (by rfl) T.b_list (by decide +kernel) (pa_cons (pe_fldK K rfl (pv 0) (by rfl)) pa_nil)))), ?_⟩
  show (_ : TS) _ [some v_self] _
  obtain ⟨rv, hv, hm⟩ := bind_some hm
  have hm := Option.some.inj hm
  cases hm
  exact a_ret ((ef_list ((em_fld4_2 L.cl_Picture L.na_Picture_seen_places (by decide) (by decide) (em_var (i := 0) rfl r_self))).el)).em hv k fun v F H e k r => hQ v F H k.dropAll r
abbrev s_Picture_hidden : Stmt := clsS 25 3
abbrev N_Picture_hidden : List PySem.Str := ["self"]
theorem sc_Picture_hidden : FnScope N_Picture_hidden ["self"] (defScope s_Picture_hidden) := ⟨rfl, rfl, rfl, by decide +kernel, rfl, by decide +kernel, by decide +kernel⟩
def sp_Picture_hidden (K : PySem.W.Frag) : Sp := (Psp1 (rO4 (He.ga K "Picture") "dimension" "words" "seen_places" "hidden_places" rInt (rDic rStr) (rLst (rTup K rInt)) (rLst (rTup K rInt))) (rLst (rTup K rInt)) m_Picture_hidden)
theorem ok_Picture_hidden {P : Program} {w : World} {K : PySem.W.Frag} {mg : PySem.Str → Option Value} {base : Heap} (T : Txt mg) (L : ClsF K mg) (E_ : ErrF K mg erL) {f : Addr} {fd : FuncData} (Fn : FnQ K "hidden" "Picture.hidden" s_Picture_hidden f fd) : FnOk P w K mg base CX0 1 f fd ["self"] (sp_Picture_hidden K) := by
  refine Fn.ok sc_Picture_hidden (fun vs H Q E h => Psp1_len h) (fun cdv A outer s H vs Q E hr h => ?_)
  obtain ⟨F, v_self, self, res, rfl, ex, r_self, hm, hQ⟩ := h
  have k := Cov.init ex
  generalize hc : Act.mk H F [] = c at k hQ
  unfold m_Picture_hidden at hm
  refine ⟨_, PSs.nox (pss_one (ps_ret (pe_callTy (call_list_ofK K rfl) (by rfl) T.b_list (by decide +kernel) (pa_cons (pe_fldK K rfl (pv 0) (by rfl)) pa_nil)))), ?_⟩
  show (_ : TS) _ [some v_self] _
  obtain ⟨rv, hv, hm⟩ := bind_some hm
  have hm := Option.some.inj hm
  cases hm
  exact a_ret ((ef_list ((em_fld4_3 L.cl_Picture L.na_Picture_hidden_places (by decide) (by decide) (by decide) (em_var (i := 0) rfl r_self))).el)).em hv k fun v F H e k r => hQ v F H k.dropAll r
abbrev s_shows : Stmt := topS 20
abbrev N_shows : List PySem.Str := ["picture", "shift"]
theorem sc_shows : FnScope N_shows ["picture", "shift"] (defScope s_shows) := ⟨rfl, rfl, rfl, by decide +kernel, rfl, by decide +kernel, by decide +kernel⟩
def sp_shows (K : PySem.W.Frag) : Sp := (Xsp K erL (gpC (rO4 (He.ga K "Picture") "dimension" "words" "seen_places" "hidden_places" rInt (rDic rStr) (rLst (rTup K rInt)) (rLst (rTup K rInt))) (gpC (rTup K rInt) gpN)) rBool (fun d => m_shows d.1 d.2.1))
theorem ok_shows {P : Program} {w : World} {K : PySem.W.Frag} {mg : PySem.Str → Option Value} {base : Heap} (T : Txt mg) (L : ClsF K mg) (E_ : ErrF K mg erL) (C_ei : CalE P w K mg base erL) (C_is_shown : Cal P w K mg base 4 "is_shown" ["seen", "hidden", "shift"] (sp_is_shown K) (fun _ => True)) (C_Picture_size : CalP P w K mg base 1 (He.ga K "Picture") "size" ["self"] (sp_Picture_size K) (fun _ => True)) (C_Picture_seen : CalP P w K mg base 1 (He.ga K "Picture") "seen" ["self"] (sp_Picture_seen K) (fun _ => True)) (C_Picture_hidden : CalP P w K mg base 1 (He.ga K "Picture") "hidden" ["self"] (sp_Picture_hidden K) (fun _ => True)) {f : Addr} {fd : FuncData} (Fn : FnP K "shows" s_shows f fd) : FnOk P w K mg base (L2.CX P w) 5 f fd ["picture", "shift"] (sp_shows K) := by
  obtain ⟨f_is_shown, fd_is_shown, G_is_shown, g_is_shown, kp_is_shown, b_is_shown, _⟩ := C_is_shown.ex
  obtain ⟨f_Picture_size, fd_Picture_size, p_Picture_size, G_Picture_size, P_Picture_size, b_Picture_size, _⟩ := C_Picture_size.ex
  obtain ⟨f_Picture_seen, fd_Picture_seen, p_Picture_seen, G_Picture_seen, P_Picture_seen, b_Picture_seen, _⟩ := C_Picture_seen.ex
  obtain ⟨f_Picture_hidden, fd_Picture_hidden, p_Picture_hidden, G_Picture_hidden, P_Picture_hidden, b_Picture_hidden, _⟩ := C_Picture_hidden.ex
  obtain ⟨fd_ei, G_ei, b_ei⟩ := C_ei.ex
  refine Fn.ok sc_shows (fun vs H Q E h => Xsp_len h) (fun cdv A outer s H vs Q E hr h => ?_)
  obtain ⟨F, ⟨picture, shift, ⟨⟩⟩, res, ex, ⟨v_picture, w0_, rfl, r_picture, v_shift, w1_, rfl, r_shift, rfl⟩, hm, hQ, hE⟩ := h
  have k := Cov.init ex
  have r_picture : (rO4 (He.ga K "Picture") "dimension" "words" "seen_places" "hidden_places" rInt (rDic rStr) (rLst (rTup K rInt)) (rLst (rTup K rInt))).r F v_picture picture := r_picture
  have r_shift : (rTup K rInt).r F v_shift shift := r_shift
  have hm : m_shows picture shift = some res := hm
  generalize hc : Act.mk H F [] = c at k hQ hE
  unfold m_shows at hm
  refine ⟨_, (pss_cons (ps_if (pt_cmpR op_ne (pe_callB (call_len_seqK K rfl) (by rfl) T.b_len PySem.boot_len (pa_cons (pv 1) pa_nil)) (pe_prop (pv 0) L.cl_Picture P_Picture_size G_Picture_size (hr.mono (by decide)) b_Picture_size .nil pass0 (by rfl)) (nomark _)) (pss_one (ps_raise rfl (takes_of rfl rfl rfl rfl) (pmk_oex (E_.oex _ er_InvalidPlace) (E_.ini _ er_InvalidPlace) E_.fnI G_ei (hr.mono (by decide)) b_ei .nil pass0 (by rfl) (E_.glo _ er_InvalidPlace) (pa_cons (pv 1) pa_nil)))) pss_nil) (pss_one (ps_ret (pe_call G_is_shown (hr.mono (by decide)) (by rfl) g_is_shown kp_is_shown b_is_shown .nil pass0 (pa_cons (pe_prop (pv 0) L.cl_Picture P_Picture_seen G_Picture_seen (hr.mono (by decide)) b_Picture_seen .nil pass0 (by rfl)) (pa_cons (pe_prop (pv 0) L.cl_Picture P_Picture_hidden G_Picture_hidden (hr.mono (by decide)) b_Picture_hidden .nil pass0 (by rfl)) (pa_cons (pv 1) pa_nil))))))), ?_⟩
  show (_ : TS) _ [some v_picture, some v_shift] _
  obtain ⟨b, hb, hm⟩ := bind_some hm
  refine q_ife (et_test (em_op vo_neI (et_len (em_var (i := 1) rfl r_shift)) (em_prop objP_O4 (em_var (i := 0) rfl r_picture)))) hb k (fun eb F H e k => ?_) (fun eb F H e k => ?_)
  ·
    subst eb
    have hm := hT hm
    have r_picture := (rO4 (He.ga K "Picture") "dimension" "words" "seen_places" "hidden_places" rInt (rDic rStr) (rLst (rTup K rInt)) (rLst (rTup K rInt))).up e r_picture
    have r_shift := (rTup K rInt).up e r_shift
    obtain ⟨p_, hx, hm⟩ := bind_some hm
    refine a_raise (W := fun cls d _ H => E cls d H) (σ := [some v_picture, some v_shift]) E_ er_InvalidPlace (pay := Pay.tup) py_tup (em_var (i := 1) rfl r_shift) hx k fun cls dd F H e k rE => ?_
    have r_picture := (rO4 (He.ga K "Picture") "dimension" "words" "seen_places" "hidden_places" rInt (rDic rStr) (rLst (rTup K rInt)) (rLst (rTup K rInt))).up e r_picture
    have r_shift := (rTup K rInt).up e r_shift
    have hm := Option.some.inj hm
    exact hE _ hm.symm cls dd F H k.dropAll rE
  ·
    subst eb
    have hm := hF hm
    have r_picture := (rO4 (He.ga K "Picture") "dimension" "words" "seen_places" "hidden_places" rInt (rDic rStr) (rLst (rTup K rInt)) (rLst (rTup K rInt))).up e r_picture
    have r_shift := (rTup K rInt).up e r_shift
    obtain ⟨rv, hv, hm⟩ := bind_some hm
    have hm := Option.some.inj hm
    cases hm
    exact a_ret (em_Pcall3 (em_prop objP_O4 (em_var (i := 0) rfl r_picture)) (em_prop objP_O4 (em_var (i := 0) rfl r_picture)) (em_var (i := 1) rfl r_shift)) hv k fun v F H e k r => hQ _ rfl v F H k.dropAll r
abbrev s_check_prime : Stmt := topS 21
abbrev N_check_prime : List PySem.Str := ["size", "prime", "primes"]
theorem sc_check_prime : FnScope N_check_prime ["size", "prime"] (defScope s_check_prime) := ⟨rfl, rfl, rfl, by decide +kernel, rfl, by decide +kernel, by decide +kernel⟩
def sp_check_prime (K : PySem.W.Frag) : Sp := (Xsp K erL (gpC rInt (gpC rInt gpN)) rNon (fun d => m_check_prime d.1 d.2.1))
theorem ok_check_prime {P : Program} {w : World} {K : PySem.W.Frag} {mg : PySem.Str → Option Value} {base : Heap} (T : Txt mg) (L : ClsF K mg) (E_ : ErrF K mg erL) (C_ei : CalE P w K mg base erL) {f : Addr} {fd : FuncData} (Fn : FnP K "check_prime" s_check_prime f fd) : FnOk P w K mg base (L2.CX P w) 3 f fd ["size", "prime"] (sp_check_prime K) := by
  obtain ⟨fd_ei, G_ei, b_ei⟩ := C_ei.ex
  refine Fn.ok sc_check_prime (fun vs H Q E h => Xsp_len h) (fun cdv A outer s H vs Q E hr h => ?_)
  obtain ⟨F, ⟨size, prime, ⟨⟩⟩, res, ex, ⟨v_size, w0_, rfl, r_size, v_prime, w1_, rfl, r_prime, rfl⟩, hm, hQ, hE⟩ := h
  have k := Cov.init ex
  have r_size : rInt.r F v_size size := r_size
  have r_prime : rInt.r F v_prime prime := r_prime
  have hm : m_check_prime size prime = some res := hm
  generalize hc : Act.mk H F [] = c at k hQ hE
  unfold m_check_prime at hm
  refine ⟨_, (pss_cons (ps_set (i := 2) sc_check_prime.nd rfl (Or.inl rfl) (pe_ifExp (pt_cmpR op_eq (pv 0) pe_int (nomark _)) (pe_tup (pa_cons pe_int (pa_cons pe_int (pa_cons pe_int (pa_cons pe_int pa_nil))))) (pe_tup (pa_cons pe_int (pa_cons pe_int pa_nil))))) (pss_one (ps_if (pt_cmpR (op_notIn_seqK K rfl) (pv 1) (pv 2) rfl) (pss_one (ps_raise rfl (takes_of rfl rfl rfl rfl) (pmk_oex (E_.oex _ er_InvalidNumber) (E_.ini _ er_InvalidNumber) E_.fnI G_ei (hr.mono (by decide)) b_ei .nil pass0 (by rfl) (E_.glo _ er_InvalidNumber) (pa_cons (pv 1) pa_nil)))) pss_nil))), ?_⟩
  show (_ : TS) _ [some v_size, some v_prime, none] _
  obtain ⟨primes_n, hx, hm⟩ := bind_some hm
  refine q_set (em_if (et_test (em_op vo_eqI (em_varf (i := 0) fl_int rfl r_size) em_int)) (em_tup (K := K) (ea_cons em_int (ea_cons em_int (ea_cons em_int (ea_cons em_int ea_nil))))) (em_tup (K := K) (ea_cons em_int (ea_cons em_int ea_nil)))) hx k fun v_primes F H e k r_primes => ?_
  obtain ⟨primes, ez_⟩ : ∃ z, z = primes_n := ⟨_, rfl⟩; subst ez_
  show (_ : TS) _ [some v_size, some v_prime, some v_primes] _
  obtain ⟨b, hb, hm⟩ := bind_some hm
  refine a_if (et_test (em_op vo_notInT (em_varf (i := 1) fl_int rfl r_prime) (em_var (i := 2) rfl r_primes))) hb k (fun eb F H e k => ?_) (fun eb F H e k => ?_)
  ·
    subst eb
    have hm := hT hm
    have r_primes := (rTup K rInt).up e r_primes
    obtain ⟨p_, hx, hm⟩ := bind_some hm
    refine a_raise (W := fun cls d _ H => E cls d H) (σ := [some v_size, some v_prime, some v_primes]) E_ er_InvalidNumber (pay := Pay.int) py_int (em_varf (i := 1) fl_int rfl r_prime) hx k fun cls dd F H e k rE => ?_
    have r_primes := (rTup K rInt).up e r_primes
    have hm := Option.some.inj hm
    exact hE _ hm.symm cls dd F H k.dropAll rE
  ·
    subst eb
    have hm := hF hm
    have r_primes := (rTup K rInt).up e r_primes
    show Ends.nx _ _ _
    cases hm
    exact hQ _ rfl _ _ _ k.dropAll rfl
abbrev s_classes : Stmt := topS 22
abbrev N_classes : List PySem.Str := ["picture", "prime", "first", "place", "one"]
theorem sc_classes : FnScope N_classes ["picture", "prime"] (defScope s_classes) := ⟨rfl, rfl, rfl, by decide +kernel, rfl, by decide +kernel, by decide +kernel⟩
def sp_classes (K : PySem.W.Frag) : Sp := (Xsp K erL (gpC (rO4 (He.ga K "Picture") "dimension" "words" "seen_places" "hidden_places" rInt (rDic rStr) (rLst (rTup K rInt)) (rLst (rTup K rInt))) (gpC rInt gpN)) (rLst (rP2 K (rTup K rInt) (rOpt (rTup K rInt)))) (fun d => m_classes d.1 d.2.1))
theorem ok_classes {P : Program} {w : World} {K : PySem.W.Frag} {mg : PySem.Str → Option Value} {base : Heap} (T : Txt mg) (L : ClsF K mg) (E_ : ErrF K mg erL) (C_remainders_by : Cal P w K mg base 1 "remainders_by" ["place", "prime"] (sp_remainders_by K) (fun _ => True)) (C_all_remainders : Cal P w K mg base 2 "all_remainders" ["size", "prime"] (sp_all_remainders K) (fun _ => True)) (C_Picture_size : CalP P w K mg base 1 (He.ga K "Picture") "size" ["self"] (sp_Picture_size K) (fun _ => True)) (C_Picture_seen : CalP P w K mg base 1 (He.ga K "Picture") "seen" ["self"] (sp_Picture_seen K) (fun _ => True)) (C_check_prime : CalX P w K mg base 3 "check_prime" ["size", "prime"] (sp_check_prime K) (fun _ => True)) {f : Addr} {fd : FuncData} (Fn : FnP K "classes" s_classes f fd) : FnOk P w K mg base (L2.CX P w) 4 f fd ["picture", "prime"] (sp_classes K) := by
  obtain ⟨f_remainders_by, fd_remainders_by, G_remainders_by, g_remainders_by, kp_remainders_by, b_remainders_by, _⟩ := C_remainders_by.ex
  obtain ⟨f_all_remainders, fd_all_remainders, G_all_remainders, g_all_remainders, kp_all_remainders, b_all_remainders, _⟩ := C_all_remainders.ex
  obtain ⟨f_Picture_size, fd_Picture_size, p_Picture_size, G_Picture_size, P_Picture_size, b_Picture_size, _⟩ := C_Picture_size.ex
  obtain ⟨f_Picture_seen, fd_Picture_seen, p_Picture_seen, G_Picture_seen, P_Picture_seen, b_Picture_seen, _⟩ := C_Picture_seen.ex
  obtain ⟨f_check_prime, fd_check_prime, G_check_prime, g_check_prime, kp_check_prime, b_check_prime, _⟩ := C_check_prime.ex
  refine Fn.ok sc_classes (fun vs H Q E h => Xsp_len h) (fun cdv A outer s H vs Q E hr h => ?_)
  obtain ⟨F, ⟨picture, prime, ⟨⟩⟩, res, ex, ⟨v_picture, w0_, rfl, r_picture, v_prime, w1_, rfl, r_prime, rfl⟩, hm, hQ, hE⟩ := h
  have k := Cov.init ex
  have r_picture : (rO4 (He.ga K "Picture") "dimension" "words" "seen_places" "hidden_places" rInt (rDic rStr) (rLst (rTup K rInt)) (rLst (rTup K rInt))).r F v_picture picture := r_picture
  have r_prime : rInt.r F v_prime prime := r_prime
  have hm : m_classes picture prime = some res := hm
  generalize hc : Act.mk H F [] = c at k hQ hE
  unfold m_classes at hm
  refine ⟨_, (pss_cons (ps_expr (pe_callS G_check_prime (hr.mono (by decide)) (by rfl) g_check_prime kp_check_prime b_check_prime (fun σ => passAt (takes_of rfl rfl rfl rfl) σ) (pa_cons (pe_prop (pv 0) L.cl_Picture P_Picture_size G_Picture_size (hr.mono (by decide)) b_Picture_size .nil pass0 (by rfl)) (pa_cons (pv 1) pa_nil)))) (pss_cons (ps_set (i := 2) sc_classes.nd rfl (Or.inr rfl) pe_dnewT) (pss_cons (ps_for (passes_of rfl) rfl (pi_listK K rfl (pe_prop (pv 0) L.cl_Picture P_Picture_seen G_Picture_seen (hr.mono (by decide)) b_Picture_seen .nil pass0 (by rfl))) (pg_name (i := 3) sc_classes.nd rfl (Or.inl rfl)) (pss_one (ps_expr (pe_dsetdT (un2 hr) (pv 2) (pe_call G_remainders_by (hr.mono (by decide)) (by rfl) g_remainders_by kp_remainders_by b_remainders_by .nil pass0 (pa_cons (pv 3) (pa_cons (pv 1) pa_nil))) (pv 3) ⟨by rfl, by rfl, by rfl, by rfl⟩)))) (pss_one (ps_ret (pe_lc (own := [("one", 4)]) (g := (gName 4)) (tt := tYes) rfl sc_classes.nd (pi_listK K rfl (pe_call G_all_remainders (hr.mono (by decide)) (by rfl) g_all_remainders kp_all_remainders b_all_remainders .nil pass0 (pa_cons (pe_prop (pv 0) L.cl_Picture P_Picture_size G_Picture_size (hr.mono (by decide)) b_Picture_size .nil pass0 (by rfl)) (pa_cons (pv 1) pa_nil)))) (blkOk_by (N := N_classes) (sc := defScope s_classes) (by decide +kernel)) (fun _ _ _ _ _ => (pg_name (i := 4) sc_classes.nd rfl (Or.inl rfl))) (fun _ _ _ _ _ => pts_nil) (fun _ _ _ _ _ => (pe_tup (pa_cons (pv 4) (pa_cons (pe_dget1 (un1 hr) (pv 2) (pv 4) ⟨by rfl, by rfl, by rfl, by rfl⟩) pa_nil)))))))))), ?_⟩
  show (_ : TS) _ [some v_picture, some v_prime, none, none, none] _
  obtain ⟨rx, hx, hm⟩ := bind_some hm
  refine q_dropX (ex_eq (m' := (o2 m_check_prime (o1 m_Picture_size (some picture)) (some prime))) (ex_call (eag_cons (em_prop objP_O4 (em_var (i := 0) rfl r_picture)) (eag_cons (em_varf (i := 1) fl_int rfl r_prime) eag_nil))) (by exact (gx2 (f := m_check_prime)))) hx k (fun er ee cls dd F H e k rE => ?_) (fun _ ex_ F H e k => ?_)
  ·
    subst ee
    try dsimp only at hm
    have r_picture := (rO4 (He.ga K "Picture") "dimension" "words" "seen_places" "hidden_places" rInt (rDic rStr) (rLst (rTup K rInt)) (rLst (rTup K rInt))).up e r_picture
    have hm := Option.some.inj hm
    exact hE _ hm.symm cls dd F H k.dropAll rE
  subst ex_
  try dsimp only at hm
  have r_picture := (rO4 (He.ga K "Picture") "dimension" "words" "seen_places" "hidden_places" rInt (rDic rStr) (rLst (rTup K rInt)) (rLst (rTup K rInt))).up e r_picture
  obtain ⟨first_n, hx, hm⟩ := bind_some hm
  have hx := Option.some.inj hx
  refine q_newD (rb := (rTup K rInt)) k fun p_first F H e k n_first => ?_
  rw [hx] at k
  obtain ⟨first, ez_⟩ : ∃ z, z = first_n := ⟨_, rfl⟩; subst ez_
  have k : Cov c F [(p_first, cDic (rTup K rInt) first)] H := k
  show (_ : TS) _ [some v_picture, some v_prime, some (.ref p_first), none, none] _
  have r_picture := (rO4 (He.ga K "Picture") "dimension" "words" "seen_places" "hidden_places" rInt (rDic rStr) (rLst (rTup K rInt)) (rLst (rTup K rInt))).up e r_picture
  obtain ⟨l_, hl, hm⟩ := bind_some hm
  obtain ⟨g1_, hf, hm⟩ := bind_some hm
  refine sq ?_
  refine a_for (ei_list (em_prop objP_O4 (em_var (i := 0) rfl r_picture))) hl k hf fun F H e k => ⟨fun g σ1 F1 H1 => ∃ w_place, σ1 = [some v_picture, some v_prime, some (.ref p_first), w_place, none] ∧ Ex F F1 ∧ Cov c F1 [(p_first, cDic (rTup K rInt) g)] H1, fun g => [(p_first, cDic (rTup K rInt) g)], ?_, ?_, ?_, ?_⟩
  · exact ⟨_, rfl, Evl.Ex.refl _, k⟩
  · rintro g σ1 F1 H1 ⟨_, rfl, e1, k1⟩
    exact ⟨e1, k1⟩
  · rintro d v first g2 σ1 F1 H1 F H ⟨w_place, rfl, eL5, _⟩ e1 k rd hm
    have eL5 := eL5.trans e1
    have r_picture := (rO4 (He.ga K "Picture") "dimension" "words" "seen_places" "hidden_places" rInt (rDic rStr) (rLst (rTup K rInt)) (rLst (rTup K rInt))).up (e.trans eL5) r_picture
    obtain ⟨place, ez_⟩ : ∃ z, z = d := ⟨_, rfl⟩; subst ez_
    obtain ⟨v_place, ez_⟩ : ∃ z, z = v := ⟨_, rfl⟩; subst ez_
    have r_place := rd
    refine gn (σ1 := [some v_picture, some v_prime, some (.ref p_first), some v_place, none]) rfl ?_
    obtain ⟨ix, hi, hm⟩ := bind_some hm
    obtain ⟨val, hx, hm⟩ := bind_some hm
    obtain ⟨first_n, hs, hm⟩ := bind_some hm
    refine a_dsetd (i := 2) (j := 0) rfl rfl (em_Pcall2t (em_var (i := 3) rfl r_place) (em_varf (i := 1) fl_int rfl r_prime)) (em_var (i := 3) rfl r_place) hi hx hs k fun F H e k => ?_
    obtain ⟨first, ez_⟩ : ∃ z, z = first_n := ⟨_, rfl⟩; subst ez_
    have r_picture := (rO4 (He.ga K "Picture") "dimension" "words" "seen_places" "hidden_places" rInt (rDic rStr) (rLst (rTup K rInt)) (rLst (rTup K rInt))).up e r_picture
    have r_place := (rTup K rInt).up e r_place
    have eL5 := eL5.trans e
    have k : Cov c F [(p_first, cDic (rTup K rInt) first)] H := k
    have hm := Option.some.inj hm
    subst hm
    exact ⟨F, _, rfl, eL5, k⟩
  obtain ⟨first, ez_⟩ : ∃ z, z = g1_ := ⟨_, rfl⟩; subst ez_
  rintro σ1 F H ⟨w_place, rfl, e1, k⟩
  have r_picture := (rO4 (He.ga K "Picture") "dimension" "words" "seen_places" "hidden_places" rInt (rDic rStr) (rLst (rTup K rInt)) (rLst (rTup K rInt))).up (e.trans e1) r_picture
  refine nxh ?_
  obtain ⟨F, e, k, r_first⟩ := k.frzD 0 rfl n_first
  have r_picture := (rO4 (He.ga K "Picture") "dimension" "words" "seen_places" "hidden_places" rInt (rDic rStr) (rLst (rTup K rInt)) (rLst (rTup K rInt))).up e r_picture
  have k : Cov c F [] H := k
  obtain ⟨rv, hv, hm⟩ := bind_some hm
  have hm := Option.some.inj hm
  cases hm
  exact a_ret ((ef_lc (K := K) (t := yes) (f := fun (one : (List Int)) => (oP2 (some one) (o2 dGet1G (some first) (some one)))) (S := (fun d F1 σ2 => ∃ v_one, σ2 = [some v_picture, some v_prime, some (.ref p_first), w_place, some v_one] ∧ (rTup K rInt).r F1 v_one d)) (ei_list (em_Pcall2 (em_prop objP_O4 (em_var (i := 0) rfl r_picture)) (em_varf (i := 1) fl_int rfl r_prime))) (gt_name (fun _ => rfl)) (fun d F1 σ2 hs => by obtain ⟨_, rfl, _⟩ := hs; rfl) (fun _ _ _ _ _ => et_yes) (by intro one F1 σ2 e1 hs; obtain ⟨v_one, rfl, r_one⟩ := hs; have r_picture := (rO4 (He.ga K "Picture") "dimension" "words" "seen_places" "hidden_places" rInt (rDic rStr) (rLst (rTup K rInt)) (rLst (rTup K rInt))).up e1 r_picture; have r_first := (rDic (rTup K rInt)).up e1 r_first; exact (em_tup2 (K := K) (em_var (i := 4) rfl r_one) (em_dget1 nn_tup ((em_var (i := 2) rfl r_first)).ed (em_var (i := 4) rfl r_one)))))).em hv k fun v F H e k r => hQ _ rfl v F H k.dropAll r
abbrev s_judge_barring : Stmt := topS 23
abbrev N_judge_barring : List PySem.Str := ["picture", "prime", "told", "seen", "place"]
theorem sc_judge_barring : FnScope N_judge_barring ["picture", "prime", "told"] (defScope s_judge_barring) := ⟨rfl, rfl, rfl, by decide +kernel, rfl, by decide +kernel, by decide +kernel⟩
def sp_judge_barring (K : PySem.W.Frag) : Sp := (Xsp K erL (gpC (rO4 (He.ga K "Picture") "dimension" "words" "seen_places" "hidden_places" rInt (rDic rStr) (rLst (rTup K rInt)) (rLst (rTup K rInt))) (gpC rInt (gpC (rLst (rTup K rInt)) gpN))) rBool (fun d => m_judge_barring d.1 d.2.1 d.2.2.1))
theorem ok_judge_barring {P : Program} {w : World} {K : PySem.W.Frag} {mg : PySem.Str → Option Value} {base : Heap} (T : Txt mg) (L : ClsF K mg) (E_ : ErrF K mg erL) (C_power : Cal P w K mg base 1 "power" ["prime", "size"] (sp_power K) (fun _ => True)) (C_remainders_by : Cal P w K mg base 1 "remainders_by" ["place", "prime"] (sp_remainders_by K) (fun _ => True)) (C_Picture_size : CalP P w K mg base 1 (He.ga K "Picture") "size" ["self"] (sp_Picture_size K) (fun _ => True)) (C_Picture_seen : CalP P w K mg base 1 (He.ga K "Picture") "seen" ["self"] (sp_Picture_seen K) (fun _ => True)) (C_check_prime : CalX P w K mg base 3 "check_prime" ["size", "prime"] (sp_check_prime K) (fun _ => True)) {f : Addr} {fd : FuncData} (Fn : FnP K "judge_barring" s_judge_barring f fd) : FnOk P w K mg base (L2.CX P w) 4 f fd ["picture", "prime", "told"] (sp_judge_barring K) := by
  obtain ⟨f_power, fd_power, G_power, g_power, kp_power, b_power, _⟩ := C_power.ex
  obtain ⟨f_remainders_by, fd_remainders_by, G_remainders_by, g_remainders_by, kp_remainders_by, b_remainders_by, _⟩ := C_remainders_by.ex
  obtain ⟨f_Picture_size, fd_Picture_size, p_Picture_size, G_Picture_size, P_Picture_size, b_Picture_size, _⟩ := C_Picture_size.ex
  obtain ⟨f_Picture_seen, fd_Picture_seen, p_Picture_seen, G_Picture_seen, P_Picture_seen, b_Picture_seen, _⟩ := C_Picture_seen.ex
  obtain ⟨f_check_prime, fd_check_prime, G_check_prime, g_check_prime, kp_check_prime, b_check_prime, _⟩ := C_check_prime.ex
  refine Fn.ok sc_judge_barring (fun vs H Q E h => Xsp_len h) (fun cdv A outer s H vs Q E hr h => ?_)
  obtain ⟨F, ⟨picture, prime, told, ⟨⟩⟩, res, ex, ⟨v_picture, w0_, rfl, r_picture, v_prime, w1_, rfl, r_prime, v_told, w2_, rfl, r_told, rfl⟩, hm, hQ, hE⟩ := h
  have k := Cov.init ex
  have r_picture : (rO4 (He.ga K "Picture") "dimension" "words" "seen_places" "hidden_places" rInt (rDic rStr) (rLst (rTup K rInt)) (rLst (rTup K rInt))).r F v_picture picture := r_picture
  have r_prime : rInt.r F v_prime prime := r_prime
  have r_told : (rLst (rTup K rInt)).r F v_told told := r_told
  have hm : m_judge_barring picture prime told = some res := hm
  generalize hc : Act.mk H F [] = c at k hQ hE
  unfold m_judge_barring at hm
  refine ⟨_, (pss_cons (ps_expr (pe_callS G_check_prime (hr.mono (by decide)) (by rfl) g_check_prime kp_check_prime b_check_prime (fun σ => passAt (takes_of rfl rfl rfl rfl) σ) (pa_cons (pe_prop (pv 0) L.cl_Picture P_Picture_size G_Picture_size (hr.mono (by decide)) b_Picture_size .nil pass0 (by rfl)) (pa_cons (pv 1) pa_nil)))) (pss_cons (ps_if (pt_cmpR op_ne (pe_callB (call_len_seqK K rfl) (by rfl) T.b_len PySem.boot_len (pa_cons (pv 2) pa_nil)) (pe_call G_power (hr.mono (by decide)) (by rfl) g_power kp_power b_power .nil pass0 (pa_cons (pv 1) (pa_cons (pe_prop (pv 0) L.cl_Picture P_Picture_size G_Picture_size (hr.mono (by decide)) b_Picture_size .nil pass0 (by rfl)) pa_nil))) (nomark _)) (pss_one (ps_ret pe_bl)) pss_nil) (pss_cons (ps_setDcT (i := 3) (own := [("place", 4)]) (g := (gName 4)) (tt := tYes) (un2 hr) rfl sc_judge_barring.nd rfl rfl (swD_true rfl rfl rfl (by decide +kernel)) (pi_listK K rfl (pe_prop (pv 0) L.cl_Picture P_Picture_seen G_Picture_seen (hr.mono (by decide)) b_Picture_seen .nil pass0 (by rfl))) (blkOk_by (N := N_judge_barring) (sc := defScope s_judge_barring) (by decide +kernel)) (fun _ _ _ _ _ => (pg_name (i := 4) sc_judge_barring.nd rfl (Or.inl rfl))) (fun _ _ _ _ _ => pts_nil) (fun _ _ _ _ _ => (pv 4)) (fun _ _ _ _ _ => pe_bl)) (pss_cons (ps_for (passes_of rfl) rfl (pi_listK K rfl (pv 2)) (pg_name (i := 4) sc_judge_barring.nd rfl (Or.inl rfl)) (pss_one (ps_if (pt_cmp (pc_dnotin (un1 hr) (pv 4) (pv 3))) (pss_one (ps_ret pe_bl)) pss_nil))) (pss_one (ps_ret (pe_cmpR op_eq (pe_callB (cr_lenSet (K := K) (P := P) (w := w) rfl rfl rfl) (by rfl) T.b_len PySem.boot_len (pa_cons (pe_scTK (K := K) (P := P) (w := w) (own := [("place", 4)]) (g := (gName 4)) (tt := tYes) rfl rfl rfl (un2 hr) rfl sc_judge_barring.nd (pi_listK K rfl (pv 2)) (blkOk_by (N := N_judge_barring) (sc := defScope s_judge_barring) (by decide +kernel)) (fun _ _ _ _ _ => (pg_name (i := 4) sc_judge_barring.nd rfl (Or.inl rfl))) (fun _ _ _ _ _ => pts_nil) (fun _ _ _ _ _ => (pe_call G_remainders_by (hr.mono (by decide)) (by rfl) g_remainders_by kp_remainders_by b_remainders_by .nil pass0 (pa_cons (pv 4) (pa_cons (pv 1) pa_nil))))) pa_nil)) (pe_callB (call_len_seqK K rfl) (by rfl) T.b_len PySem.boot_len (pa_cons (pv 2) pa_nil)) (nomark _)))))))), ?_⟩
  show (_ : TS) _ [some v_picture, some v_prime, some v_told, none, none] _
  obtain ⟨rx, hx, hm⟩ := bind_some hm
  refine q_dropX (ex_eq (m' := (o2 m_check_prime (o1 m_Picture_size (some picture)) (some prime))) (ex_call (eag_cons (em_prop objP_O4 (em_var (i := 0) rfl r_picture)) (eag_cons (em_varf (i := 1) fl_int rfl r_prime) eag_nil))) (by exact (gx2 (f := m_check_prime)))) hx k (fun er ee cls dd F H e k rE => ?_) (fun _ ex_ F H e k => ?_)
  ·
    subst ee
    try dsimp only at hm
    have r_picture := (rO4 (He.ga K "Picture") "dimension" "words" "seen_places" "hidden_places" rInt (rDic rStr) (rLst (rTup K rInt)) (rLst (rTup K rInt))).up e r_picture
    have r_told := (rLst (rTup K rInt)).up e r_told
    have hm := Option.some.inj hm
    exact hE _ hm.symm cls dd F H k.dropAll rE
  subst ex_
  try dsimp only at hm
  have r_picture := (rO4 (He.ga K "Picture") "dimension" "words" "seen_places" "hidden_places" rInt (rDic rStr) (rLst (rTup K rInt)) (rLst (rTup K rInt))).up e r_picture
  have r_told := (rLst (rTup K rInt)).up e r_told
  obtain ⟨b, hb, hm⟩ := bind_some hm
  refine q_ife (et_test (em_op vo_neI (el_len ((em_var (i := 2) rfl r_told)).el) (em_Pcall2 (em_varf (i := 1) fl_int rfl r_prime) (em_prop objP_O4 (em_var (i := 0) rfl r_picture))))) hb k (fun eb F H e k => ?_) (fun eb F H e k => ?_)
  ·
    subst eb
    have hm := hT hm
    have r_picture := (rO4 (He.ga K "Picture") "dimension" "words" "seen_places" "hidden_places" rInt (rDic rStr) (rLst (rTup K rInt)) (rLst (rTup K rInt))).up e r_picture
    have r_told := (rLst (rTup K rInt)).up e r_told
    obtain ⟨rv, hv, hm⟩ := bind_some hm
    have hm := Option.some.inj hm
    cases hm
    exact a_ret em_bl hv k fun v F H e k r => hQ _ rfl v F H k.dropAll r
  ·
    subst eb
    have hm := hF hm
    have r_picture := (rO4 (He.ga K "Picture") "dimension" "words" "seen_places" "hidden_places" rInt (rDic rStr) (rLst (rTup K rInt)) (rLst (rTup K rInt))).up e r_picture
    have r_told := (rLst (rTup K rInt)).up e r_told
    obtain ⟨seen_n, hx, hm⟩ := bind_some hm
    refine q_set (em_dcT (K := K) (t := yes) (fk := fun (place : (List Int)) => (some place)) (fv := fun (place : (List Int)) => (some true)) (S := (fun d F1 σ2 => ∃ v_place, σ2 = [some v_picture, some v_prime, some v_told, none, some v_place] ∧ (rTup K rInt).r F1 v_place d)) (ei_list (em_prop objP_O4 (em_var (i := 0) rfl r_picture))) (gt_name (fun _ => rfl)) (fun d F1 σ2 hs => by obtain ⟨_, rfl, _⟩ := hs; rfl) (fun _ _ _ _ _ => et_yes) (by intro place F1 σ2 e1 hs; obtain ⟨v_place, rfl, r_place⟩ := hs; have r_picture := (rO4 (He.ga K "Picture") "dimension" "words" "seen_places" "hidden_places" rInt (rDic rStr) (rLst (rTup K rInt)) (rLst (rTup K rInt))).up e1 r_picture; have r_told := (rLst (rTup K rInt)).up e1 r_told; exact (em_var (i := 4) rfl r_place)) (by intro place F1 σ2 e1 hs; obtain ⟨v_place, rfl, r_place⟩ := hs; have r_picture := (rO4 (He.ga K "Picture") "dimension" "words" "seen_places" "hidden_places" rInt (rDic rStr) (rLst (rTup K rInt)) (rLst (rTup K rInt))).up e1 r_picture; have r_told := (rLst (rTup K rInt)).up e1 r_told; exact em_bl)) hx k fun v_seen F H e k r_seen => ?_
    obtain ⟨seen, ez_⟩ : ∃ z, z = seen_n := ⟨_, rfl⟩; subst ez_
    show (_ : TS) _ [some v_picture, some v_prime, some v_told, some v_seen, none] _
    have r_picture := (rO4 (He.ga K "Picture") "dimension" "words" "seen_places" "hidden_places" rInt (rDic rStr) (rLst (rTup K rInt)) (rLst (rTup K rInt))).up e r_picture
    have r_told := (rLst (rTup K rInt)).up e r_told
    obtain ⟨l_, hl, hm⟩ := bind_some hm
    obtain ⟨out1, hf, hm⟩ := bind_some hm
    have hm1 := hm
    refine sq ?_
    refine a_loop (ei_list (em_var (i := 2) rfl r_told)) hl k hf fun F H e k => ⟨fun g σ1 F1 H1 => ∃ w_place, σ1 = [some v_picture, some v_prime, some v_told, some v_seen, w_place] ∧ Ex F F1 ∧ Cov c F1 [] H1, fun g => [], ?_, ?_, ?_, ?_⟩
    · exact ⟨_, rfl, Evl.Ex.refl _, k⟩
    · rintro g σ1 F1 H1 ⟨_, rfl, e1, k1⟩
      exact ⟨e1, k1⟩
    · rintro d v ⟨⟩ oo1 σ1 F1 H1 F H ⟨w_place, rfl, eL6, _⟩ e1 k rd hm hret1 hbrk1
      have eL6 := eL6.trans e1
      have r_picture := (rO4 (He.ga K "Picture") "dimension" "words" "seen_places" "hidden_places" rInt (rDic rStr) (rLst (rTup K rInt)) (rLst (rTup K rInt))).up (e.trans eL6) r_picture
      have r_told := (rLst (rTup K rInt)).up (e.trans eL6) r_told
      have r_seen := (rDic rBool).up (e.trans eL6) r_seen
      obtain ⟨place, ez_⟩ : ∃ z, z = d := ⟨_, rfl⟩; subst ez_
      obtain ⟨v_place, ez_⟩ : ∃ z, z = v := ⟨_, rfl⟩; subst ez_
      have r_place := rd
      refine gn (σ1 := [some v_picture, some v_prime, some v_told, some v_seen, some v_place]) rfl ?_
      obtain ⟨b, hb, hm⟩ := bind_some hm
      refine a_if (et_B (em_dnotin (em_var (i := 4) rfl r_place) ((em_var (i := 3) rfl r_seen)).ed)) hb k (fun eb F H e k => ?_) (fun eb F H e k => ?_)
      ·
        subst eb
        have hm := hT hm
        have r_picture := (rO4 (He.ga K "Picture") "dimension" "words" "seen_places" "hidden_places" rInt (rDic rStr) (rLst (rTup K rInt)) (rLst (rTup K rInt))).up e r_picture
        have r_told := (rLst (rTup K rInt)).up e r_told
        have r_seen := (rDic rBool).up e r_seen
        have r_place := (rTup K rInt).up e r_place
        have eL6 := eL6.trans e
        obtain ⟨rv, hv, hm⟩ := bind_some hm
        have hm := Option.some.inj hm
        subst hm
        have ho1 := hret1 _ rfl
        rw [ho1] at hm1
        have hm := Option.some.inj hm1
        cases hm
        exact a_ret em_bl hv k fun v F H e k r => hQ _ rfl v F H k.dropAll r
      ·
        subst eb
        have hm := hF hm
        have r_picture := (rO4 (He.ga K "Picture") "dimension" "words" "seen_places" "hidden_places" rInt (rDic rStr) (rLst (rTup K rInt)) (rLst (rTup K rInt))).up e r_picture
        have r_told := (rLst (rTup K rInt)).up e r_told
        have r_seen := (rDic rBool).up e r_seen
        have r_place := (rTup K rInt).up e r_place
        have eL6 := eL6.trans e
        show Ends.nx _ _ _
        have hm := Option.some.inj hm
        subst hm
        exact ⟨F, _, rfl, _, rfl, eL6, k⟩
    rintro ⟨⟩ σ1 F H eo ⟨w_place, rfl, e1, k⟩
    subst eo
    have r_picture := (rO4 (He.ga K "Picture") "dimension" "words" "seen_places" "hidden_places" rInt (rDic rStr) (rLst (rTup K rInt)) (rLst (rTup K rInt))).up (e.trans e1) r_picture
    have r_told := (rLst (rTup K rInt)).up (e.trans e1) r_told
    have r_seen := (rDic rBool).up (e.trans e1) r_seen
    refine nxh ?_
    obtain ⟨rv, hv, hm⟩ := bind_some hm
    have hm := Option.some.inj hm
    cases hm
    exact a_ret (em_op vo_eqI (em_lenS (K := K) (em_scT (K := K) (t := yes) (f := fun (place : (List Int)) => (m_remainders_by place prime)) (S := (fun d F1 σ2 => ∃ v_place, σ2 = [some v_picture, some v_prime, some v_told, some v_seen, some v_place] ∧ (rTup K rInt).r F1 v_place d)) (ei_list (em_var (i := 2) rfl r_told)) (gt_name (fun _ => rfl)) (fun d F1 σ2 hs => by obtain ⟨_, rfl, _⟩ := hs; rfl) (fun _ _ _ _ _ => et_yes) (by intro place F1 σ2 e1 hs; obtain ⟨v_place, rfl, r_place⟩ := hs; have r_picture := (rO4 (He.ga K "Picture") "dimension" "words" "seen_places" "hidden_places" rInt (rDic rStr) (rLst (rTup K rInt)) (rLst (rTup K rInt))).up e1 r_picture; have r_told := (rLst (rTup K rInt)).up e1 r_told; have r_seen := (rDic rBool).up e1 r_seen; exact (em_Pcall2t (em_var (i := 4) rfl r_place) (em_varf (i := 1) fl_int rfl r_prime))))) (el_len ((em_var (i := 2) rfl r_told)).el)) hv k fun v F H e k r => hQ _ rfl v F H k.dropAll r
abbrev s_Picture___init__ : Stmt := clsS 25 0
abbrev N_Picture___init__ : List PySem.Str := ["self", "size", "seen", "hidden", "words", "word", "places", "place"]
theorem sc_Picture___init__ : FnScope N_Picture___init__ ["self", "size", "seen", "hidden"] (defScope s_Picture___init__) := ⟨rfl, rfl, rfl, by decide +kernel, rfl, by decide +kernel, by decide +kernel⟩
def sp_Picture___init__ (K : PySem.W.Frag) : Sp := (MPsp3 (fun z => (cO4 (He.ga K "Picture") "dimension" "words" "seen_places" "hidden_places" rInt (rDic rStr) (rLst (rTup K rInt)) (rLst (rTup K rInt))) z) rInt (rLst (rTup K rInt)) (rLst (rTup K rInt)) rNon m_Picture___init__)
theorem ok_Picture___init__ {P : Program} {w : World} {K : PySem.W.Frag} {mg : PySem.Str → Option Value} {base : Heap} (T : Txt mg) (L : ClsF K mg) (E_ : ErrF K mg erL) {f : Addr} {fd : FuncData} (Fn : FnQ K "__init__" "Picture.__init__" s_Picture___init__ f fd) : FnOk P w K mg base CX0 1 f fd ["self", "size", "seen", "hidden"] (sp_Picture___init__ K) := by
  refine Fn.ok sc_Picture___init__ (fun vs H Q E h => MPsp3_len h) (fun cdv A outer s H vs Q E hr h => ?_)
  obtain ⟨F, p_self, v_size, v_seen, v_hidden, self, size, seen, hidden, res, s_out, rfl, k, r_size, r_seen, r_hidden, hm, hQ⟩ := h
  generalize hc : Act.mk H F [p_self] = c at k hQ
  unfold m_Picture___init__ at hm
  refine ⟨_, PSs.nox (pss_cons (ps_if (pt_cmpR (op_notIn_seqK K rfl) (pv 1) (pe_tup (pa_cons pe_int (pa_cons pe_int pa_nil))) rfl) (pss_one ps_never) pss_nil) (pss_cons (ps_set (i := 4) sc_Picture___init__.nd rfl (Or.inl rfl) pe_dnewT) (pss_cons (ps_for PassesOwn.never rfl (pi_listK K rfl (pe_lst (pa_cons (pe_tup (pa_cons pe_str (pa_cons (pv 2) pa_nil))) (pa_cons (pe_tup (pa_cons pe_str (pa_cons (pv 3) pa_nil))) pa_nil)))) (pg_tup (by rfl) (pgs_cons (pg_name (i := 5) sc_Picture___init__.nd rfl (Or.inl rfl)) (pgs_cons (pg_name (i := 6) sc_Picture___init__.nd rfl (Or.inl rfl)) pgs_nil))) (pss_one (ps_for PassesOwn.never rfl (pi_listK K rfl (pv 6)) (pg_name (i := 7) sc_Picture___init__.nd rfl (Or.inl rfl)) (pss_cons (ps_if (pt_cmpR op_ne (pe_callB (call_len_seqK K rfl) (by rfl) T.b_len PySem.boot_len (pa_cons (pv 7) pa_nil)) (pv 1) (nomark _)) (pss_one ps_never) pss_nil) (pss_cons (ps_if (pt_cmp (pc_din (un1 hr) (pv 7) (pv 4))) (pss_one ps_never) pss_nil) (pss_one (ps_dput (un1 hr) (pv 4) (pv 7) (pv 5) (by rfl)))))))) (pss_cons (ps_fld (pv 0) (pv 1) (by rfl)) (pss_cons (ps_fld (pv 0) (pv 4) (by rfl)) (pss_cons (ps_fld (pv 0) (pe_callB (cr_sortedTIK K rfl) (by rfl) T.b_sorted (by decide +kernel) (pa_cons (pv 2) pa_nil)) (by rfl)) (pss_one (ps_fld (pv 0) (pe_callB (cr_sortedTIK K rfl) (by rfl) T.b_sorted (by decide +kernel) (pa_cons (pv 3) pa_nil)) (by rfl))))))))), ?_⟩
  show (_ : TS) _ [some (.ref p_self), some v_size, some v_seen, some v_hidden, none, none, none, none] _
  obtain ⟨b, hb, hm⟩ := bind_some hm
  refine q_ife (et_test (em_op vo_notInT (em_varf (i := 1) fl_int rfl r_size) (em_tup (K := K) (ea_cons em_int (ea_cons em_int ea_nil))))) hb k (fun eb F H e k => ?_) (fun eb F H e k => ?_)
  ·
    subst eb
    have hm := hT hm
    have r_seen := (rLst (rTup K rInt)).up e r_seen
    have r_hidden := (rLst (rTup K rInt)).up e r_hidden
    cases hm
  ·
    subst eb
    have hm := hF hm
    have r_seen := (rLst (rTup K rInt)).up e r_seen
    have r_hidden := (rLst (rTup K rInt)).up e r_hidden
    obtain ⟨words_n, hx, hm⟩ := bind_some hm
    have hx := Option.some.inj hx
    refine q_newD (rb := rStr) k fun p_words F H e k n_words => ?_
    rw [hx] at k
    obtain ⟨words, ez_⟩ : ∃ z, z = words_n := ⟨_, rfl⟩; subst ez_
    have k : Cov c F [(p_self, (cO4 (He.ga K "Picture") "dimension" "words" "seen_places" "hidden_places" rInt (rDic rStr) (rLst (rTup K rInt)) (rLst (rTup K rInt))) self), (p_words, cDic rStr words)] H := k
    show (_ : TS) _ [some (.ref p_self), some v_size, some v_seen, some v_hidden, some (.ref p_words), none, none, none] _
    have r_seen := (rLst (rTup K rInt)).up e r_seen
    have r_hidden := (rLst (rTup K rInt)).up e r_hidden
    obtain ⟨l_, hl, hm⟩ := bind_some hm
    obtain ⟨g1_, hf, hm⟩ := bind_some hm
    refine sq ?_
    refine a_for (ei_list ((ef_lst (ea_cons (em_tup2 (K := K) em_str (em_var (i := 2) rfl r_seen)) (ea_cons (em_tup2 (K := K) em_str (em_var (i := 3) rfl r_hidden)) ea_nil)))).em) hl k hf fun F H e k => ⟨fun g σ1 F1 H1 => ∃ w_place w_word w_places, σ1 = [some (.ref p_self), some v_size, some v_seen, some v_hidden, some (.ref p_words), w_word, w_places, w_place] ∧ Ex F F1 ∧ Cov c F1 [(p_self, (cO4 (He.ga K "Picture") "dimension" "words" "seen_places" "hidden_places" rInt (rDic rStr) (rLst (rTup K rInt)) (rLst (rTup K rInt))) self), (p_words, cDic rStr g)] H1, fun g => [(p_self, (cO4 (He.ga K "Picture") "dimension" "words" "seen_places" "hidden_places" rInt (rDic rStr) (rLst (rTup K rInt)) (rLst (rTup K rInt))) self), (p_words, cDic rStr g)], ?_, ?_, ?_, ?_⟩
    · exact ⟨_, _, _, rfl, Evl.Ex.refl _, k⟩
    · rintro g σ1 F1 H1 ⟨_, _, _, rfl, e1, k1⟩
      exact ⟨e1, k1⟩
    · rintro d v words g2 σ1 F1 H1 F H ⟨w_place, w_word, w_places, rfl, eL7, _⟩ e1 k rd hm
      have eL7 := eL7.trans e1
      have r_seen := (rLst (rTup K rInt)).up (e.trans eL7) r_seen
      have r_hidden := (rLst (rTup K rInt)).up (e.trans eL7) r_hidden
      obtain ⟨word, places⟩ := d
      obtain ⟨_, v_word, v_places, rfl, ht, r_word, r_places⟩ := rd
      refine gt2 (σ1 := [some (.ref p_self), some v_size, some v_seen, some v_hidden, some (.ref p_words), some v_word, some v_places, w_place]) (ext_ k.ex ht) rfl ?_
      obtain ⟨l_, hl, hm⟩ := bind_some hm
      obtain ⟨g1_, hf, hm⟩ := bind_some hm
      refine a_for (ei_list (em_var (i := 6) rfl r_places)) hl k hf fun F H e k => ⟨fun g σ1 F1 H1 => ∃ w_place, σ1 = [some (.ref p_self), some v_size, some v_seen, some v_hidden, some (.ref p_words), some v_word, some v_places, w_place] ∧ Ex F F1 ∧ Cov c F1 [(p_self, (cO4 (He.ga K "Picture") "dimension" "words" "seen_places" "hidden_places" rInt (rDic rStr) (rLst (rTup K rInt)) (rLst (rTup K rInt))) self), (p_words, cDic rStr g)] H1, fun g => [(p_self, (cO4 (He.ga K "Picture") "dimension" "words" "seen_places" "hidden_places" rInt (rDic rStr) (rLst (rTup K rInt)) (rLst (rTup K rInt))) self), (p_words, cDic rStr g)], ?_, ?_, ?_, ?_⟩
      · exact ⟨_, rfl, Evl.Ex.refl _, k⟩
      · rintro g σ1 F1 H1 ⟨_, rfl, e1, k1⟩
        exact ⟨e1, k1⟩
      · rintro d v words g2 σ1 F1 H1 F H ⟨w_place, rfl, eL8, _⟩ e1 k rd hm
        have eL8 := eL8.trans e1
        have r_seen := (rLst (rTup K rInt)).up (e.trans eL8) r_seen
        have r_hidden := (rLst (rTup K rInt)).up (e.trans eL8) r_hidden
        have r_places := (rLst (rTup K rInt)).up (e.trans eL8) r_places
        have eL7 := eL7.trans (e.trans eL8)
        obtain ⟨place, ez_⟩ : ∃ z, z = d := ⟨_, rfl⟩; subst ez_
        obtain ⟨v_place, ez_⟩ : ∃ z, z = v := ⟨_, rfl⟩; subst ez_
        have r_place := rd
        refine gn (σ1 := [some (.ref p_self), some v_size, some v_seen, some v_hidden, some (.ref p_words), some v_word, some v_places, some v_place]) rfl ?_
        obtain ⟨b, hb, hm⟩ := bind_some hm
        refine q_ife (et_test (em_op vo_neI (et_len (em_var (i := 7) rfl r_place)) (em_varf (i := 1) fl_int rfl r_size))) hb k (fun eb F H e k => ?_) (fun eb F H e k => ?_)
        ·
          subst eb
          have hm := hT hm
          have r_seen := (rLst (rTup K rInt)).up e r_seen
          have r_hidden := (rLst (rTup K rInt)).up e r_hidden
          have r_place := (rTup K rInt).up e r_place
          have r_places := (rLst (rTup K rInt)).up e r_places
          have eL7 := eL7.trans e
          have eL8 := eL8.trans e
          cases hm
        ·
          subst eb
          have hm := hF hm
          have r_seen := (rLst (rTup K rInt)).up e r_seen
          have r_hidden := (rLst (rTup K rInt)).up e r_hidden
          have r_place := (rTup K rInt).up e r_place
          have r_places := (rLst (rTup K rInt)).up e r_places
          have eL7 := eL7.trans e
          have eL8 := eL8.trans e
          obtain ⟨b, hb, hm⟩ := bind_some hm
          refine q_ife (et_B (em_din (em_var (i := 7) rfl r_place) (ed_cell (i := 4) (j := 1) rfl rfl))) hb k (fun eb F H e k => ?_) (fun eb F H e k => ?_)
          ·
            subst eb
            have hm := hT hm
            have r_seen := (rLst (rTup K rInt)).up e r_seen
            have r_hidden := (rLst (rTup K rInt)).up e r_hidden
            have r_place := (rTup K rInt).up e r_place
            have r_places := (rLst (rTup K rInt)).up e r_places
            have eL7 := eL7.trans e
            have eL8 := eL8.trans e
            cases hm
          ·
            subst eb
            have hm := hF hm
            have r_seen := (rLst (rTup K rInt)).up e r_seen
            have r_hidden := (rLst (rTup K rInt)).up e r_hidden
            have r_place := (rTup K rInt).up e r_place
            have r_places := (rLst (rTup K rInt)).up e r_places
            have eL7 := eL7.trans e
            have eL8 := eL8.trans e
            obtain ⟨val, hx, hm⟩ := bind_some hm
            obtain ⟨ix, hi, hm⟩ := bind_some hm
            obtain ⟨words_n, hs, hm⟩ := bind_some hm
            refine a_dput (i := 4) (j := 1) rfl rfl (em_varf (i := 5) fl_str rfl r_word) (em_var (i := 7) rfl r_place) hx hi hs k fun F H e k => ?_
            obtain ⟨words, ez_⟩ : ∃ z, z = words_n := ⟨_, rfl⟩; subst ez_
            have r_seen := (rLst (rTup K rInt)).up e r_seen
            have r_hidden := (rLst (rTup K rInt)).up e r_hidden
            have r_place := (rTup K rInt).up e r_place
            have r_places := (rLst (rTup K rInt)).up e r_places
            have eL7 := eL7.trans e
            have eL8 := eL8.trans e
            have k : Cov c F [(p_self, (cO4 (He.ga K "Picture") "dimension" "words" "seen_places" "hidden_places" rInt (rDic rStr) (rLst (rTup K rInt)) (rLst (rTup K rInt))) self), (p_words, cDic rStr words)] H := k
            have hm := Option.some.inj hm
            subst hm
            exact ⟨F, _, rfl, eL8, k⟩
      obtain ⟨words, ez_⟩ : ∃ z, z = g1_ := ⟨_, rfl⟩; subst ez_
      rintro σ1 F H ⟨w_place, rfl, e1, k⟩
      have r_seen := (rLst (rTup K rInt)).up (e.trans e1) r_seen
      have r_hidden := (rLst (rTup K rInt)).up (e.trans e1) r_hidden
      have r_places := (rLst (rTup K rInt)).up (e.trans e1) r_places
      have eL7 := eL7.trans (e.trans e1)
      refine nxh ?_
      have hm := Option.some.inj hm
      subst hm
      exact ⟨F, _, _, _, rfl, eL7, k⟩
    obtain ⟨words, ez_⟩ : ∃ z, z = g1_ := ⟨_, rfl⟩; subst ez_
    rintro σ1 F H ⟨w_place, w_word, w_places, rfl, e1, k⟩
    have r_seen := (rLst (rTup K rInt)).up (e.trans e1) r_seen
    have r_hidden := (rLst (rTup K rInt)).up (e.trans e1) r_hidden
    refine nxh ?_
    obtain ⟨F, e, k, r_words⟩ := k.frzD 1 rfl n_words
    have r_seen := (rLst (rTup K rInt)).up e r_seen
    have r_hidden := (rLst (rTup K rInt)).up e r_hidden
    have k : Cov c F [(p_self, (cO4 (He.ga K "Picture") "dimension" "words" "seen_places" "hidden_places" rInt (rDic rStr) (rLst (rTup K rInt)) (rLst (rTup K rInt))) self)] H := k
    obtain ⟨val, hx, hm⟩ := bind_some hm
    obtain ⟨self_n, hs, hm⟩ := bind_some hm
    refine q_put4_0 (i := 0) (j := 0) L.cl_Picture L.na_Picture_dimension rfl rfl (em_varf (i := 1) fl_int rfl r_size) hx hs k fun F H e k => ?_
    obtain ⟨self, ez_⟩ : ∃ z, z = self_n := ⟨_, rfl⟩; subst ez_
    have r_seen := (rLst (rTup K rInt)).up e r_seen
    have r_hidden := (rLst (rTup K rInt)).up e r_hidden
    have r_words := (rDic rStr).up e r_words
    have k : Cov c F [(p_self, (cO4 (He.ga K "Picture") "dimension" "words" "seen_places" "hidden_places" rInt (rDic rStr) (rLst (rTup K rInt)) (rLst (rTup K rInt))) self)] H := k
    obtain ⟨val, hx, hm⟩ := bind_some hm
    obtain ⟨self_n, hs, hm⟩ := bind_some hm
    refine q_put4_1 (i := 0) (j := 0) L.cl_Picture L.na_Picture_words (by decide) rfl rfl (em_var (i := 4) rfl r_words) hx hs k fun F H e k => ?_
    obtain ⟨self, ez_⟩ : ∃ z, z = self_n := ⟨_, rfl⟩; subst ez_
    have r_seen := (rLst (rTup K rInt)).up e r_seen
    have r_hidden := (rLst (rTup K rInt)).up e r_hidden
    have r_words := (rDic rStr).up e r_words
    have k : Cov c F [(p_self, (cO4 (He.ga K "Picture") "dimension" "words" "seen_places" "hidden_places" rInt (rDic rStr) (rLst (rTup K rInt)) (rLst (rTup K rInt))) self)] H := k
    obtain ⟨val, hx, hm⟩ := bind_some hm
    obtain ⟨self_n, hs, hm⟩ := bind_some hm
    refine q_put4_2 (i := 0) (j := 0) L.cl_Picture L.na_Picture_seen_places (by decide) (by decide) rfl rfl ((ef_sortT ((em_var (i := 2) rfl r_seen)).el)).em hx hs k fun F H e k => ?_
    obtain ⟨self, ez_⟩ : ∃ z, z = self_n := ⟨_, rfl⟩; subst ez_
    have r_seen := (rLst (rTup K rInt)).up e r_seen
    have r_hidden := (rLst (rTup K rInt)).up e r_hidden
    have r_words := (rDic rStr).up e r_words
    have k : Cov c F [(p_self, (cO4 (He.ga K "Picture") "dimension" "words" "seen_places" "hidden_places" rInt (rDic rStr) (rLst (rTup K rInt)) (rLst (rTup K rInt))) self)] H := k
    obtain ⟨val, hx, hm⟩ := bind_some hm
    obtain ⟨self_n, hs, hm⟩ := bind_some hm
    refine a_put4_3 (i := 0) (j := 0) L.cl_Picture L.na_Picture_hidden_places (by decide) (by decide) (by decide) rfl rfl ((ef_sortT ((em_var (i := 3) rfl r_hidden)).el)).em hx hs k fun F H e k => ?_
    obtain ⟨self, ez_⟩ : ∃ z, z = self_n := ⟨_, rfl⟩; subst ez_
    have r_seen := (rLst (rTup K rInt)).up e r_seen
    have r_hidden := (rLst (rTup K rInt)).up e r_hidden
    have r_words := (rDic rStr).up e r_words
    have k : Cov c F [(p_self, (cO4 (He.ga K "Picture") "dimension" "words" "seen_places" "hidden_places" rInt (rDic rStr) (rLst (rTup K rInt)) (rLst (rTup K rInt))) self)] H := k
    cases hm
    exact hQ _ _ _ (k.keepN 1) rfl
abbrev s_well : Stmt := topS 27
abbrev N_well : List PySem.Str := ["_law_script", "_law_k", "_law_cell"]
theorem sc_well : FnScope N_well ["_law_script", "_law_k"] (defScope s_well) := ⟨rfl, rfl, rfl, by decide +kernel, rfl, by decide +kernel, by decide +kernel⟩
def sp_well (K : PySem.W.Frag) : Sp := (Fsp2 (rLsW K rInt) rInt rInt m_well)
theorem ok_well {P : Program} {w : World} {K : PySem.W.Frag} {mg : PySem.Str → Option Value} {base : Heap} (T : Txt mg) (L : ClsF K mg) (E_ : ErrF K mg erL) {f : Addr} {fd : FuncData} (Fn : FnP K "_law_well" s_well f fd) : FnOk P w K mg base CX0 1 f fd ["_law_script", "_law_k"] (sp_well K) := by
  refine Fn.ok sc_well (fun vs H Q E h => Fsp2_len h) (fun cdv A outer s H vs Q E hr h => ?_)
  obtain ⟨F, v_script, v_k_, script, k_, res, rfl, ex, r_script, r_k_, hm, hQ⟩ := h
  have k := Cov.init ex
  generalize hc : Act.mk H F [] = c at k hQ
  unfold m_well at hm
  refine ⟨_, PSs.nox (pss_cons (ps_set (i := 2) sc_well.nd rfl (Or.inl rfl) (pe_ifExp (pt_cmpR op_lt (pv 1) (pe_callB (call_len_seqK K rfl) (by rfl) T.b_len PySem.boot_len (pa_cons (pv 0) pa_nil)) (nomark _)) (pe_ix (ix_listK K rfl) (pv 0) (pv 1) (fun _ _ => rfl)) pe_int)) (pss_cons (ps_if (pt_cmpR op_ge (pv 2) (pe_op op_pow pe_int pe_int) (nomark _)) (pss_one (ps_ret (pe_lst (pa_cons (pe_op op_sub (pv 2) (pe_op op_pow pe_int pe_int)) (pa_cons (pe_un un_neg pe_int) pa_nil))))) pss_nil) (pss_one (ps_ret (pe_lst (pa_cons (pe_op op_add (pe_op op_add (pe_op op_mod (pe_callTy call_int1 (by rfl) T.b_int (by decide +kernel) (pa_cons (pv 2) pa_nil)) (pe_op op_pow pe_int pe_int)) (pe_op op_mulI pe_int (pv 1))) pe_int) (pa_cons pe_int pa_nil))))))), ?_⟩
  show (_ : TS) _ [some v_script, some v_k_, none] _
  obtain ⟨cell_n, hx, hm⟩ := bind_some hm
  refine q_set (em_if (et_test (em_op vo_lt (em_varf (i := 1) fl_int rfl r_k_) (el_len ((em_var (i := 0) rfl r_script)).elw))) (el_ix ((em_var (i := 0) rfl r_script)).elw (em_varf (i := 1) fl_int rfl r_k_)) em_int) hx k fun v_cell F H e k r_cell => ?_
  obtain ⟨cell, ez_⟩ : ∃ z, z = cell_n := ⟨_, rfl⟩; subst ez_
  show (_ : TS) _ [some v_script, some v_k_, some v_cell] _
  have r_script := (rLsW K rInt).up e r_script
  obtain ⟨b, hb, hm⟩ := bind_some hm
  refine q_ife (et_test (em_op vo_ge (em_varf (i := 2) fl_int rfl r_cell) (em_powC (n := 18) rfl (by decide) (by decide)))) hb k (fun eb F H e k => ?_) (fun eb F H e k => ?_)
  ·
    subst eb
    have hm := hT hm
    have r_script := (rLsW K rInt).up e r_script
    obtain ⟨rv, hv, hm⟩ := bind_some hm
    have hm := Option.some.inj hm
    cases hm
    exact a_retF (ef_lst (ea_cons (em_op vo_sub (em_varf (i := 2) fl_int rfl r_cell) (em_powC (n := 18) rfl (by decide) (by decide))) (ea_cons (em_un vu_neg em_int) ea_nil))) hv k fun q F H e k => hQ q F H k.last1
  ·
    subst eb
    have hm := hF hm
    have r_script := (rLsW K rInt).up e r_script
    obtain ⟨rv, hv, hm⟩ := bind_some hm
    have hm := Option.some.inj hm
    cases hm
    exact a_retF (ef_lst (ea_cons (em_op vo_add (em_op vo_add (em_op vo_mod (em_cb vc_int (em_varf (i := 2) fl_int rfl r_cell)) (em_powC (n := 18) rfl (by decide) (by decide))) (em_op vo_mul em_int (em_varf (i := 1) fl_int rfl r_k_))) em_int) (ea_cons em_int ea_nil))) hv k fun q F H e k => hQ q F H k.last1
abbrev s_draw : Stmt := topS 28
abbrev N_draw : List PySem.Str := ["_law_well_here", "_law_many", "_law_drawn", "_law_mixed"]
theorem sc_draw : FnScope N_draw ["_law_well_here", "_law_many"] (defScope s_draw) := ⟨rfl, rfl, rfl, by decide +kernel, rfl, by decide +kernel, by decide +kernel⟩
def sp_draw (K : PySem.W.Frag) : Sp := (MPsp1 (fun z => cLst rInt z) rInt rInt m_draw)
theorem ok_draw {P : Program} {w : World} {K : PySem.W.Frag} {mg : PySem.Str → Option Value} {base : Heap} (T : Txt mg) (L : ClsF K mg) (E_ : ErrF K mg erL) {f : Addr} {fd : FuncData} (Fn : FnP K "_law_draw" s_draw f fd) : FnOk P w K mg base CX0 1 f fd ["_law_well_here", "_law_many"] (sp_draw K) := by
  refine Fn.ok sc_draw (fun vs H Q E h => MPsp1_len h) (fun cdv A outer s H vs Q E hr h => ?_)
  obtain ⟨F, p_well_here, v_many, well_here, many, res, s_out, rfl, k, r_many, hm, hQ⟩ := h
  generalize hc : Act.mk H F [p_well_here] = c at k hQ
  unfold m_draw at hm
  refine ⟨_, PSs.nox (pss_cons (ps_if (pt_cmpR op_lt (pe_ix (ix_listK K rfl) (pv 0) pe_int (fun _ _ => rfl)) pe_int (nomark _)) (pss_cons (ps_set (i := 2) sc_draw.nd rfl (Or.inl rfl) (pe_op op_mod (pe_callTy call_int1 (by rfl) T.b_int (by decide +kernel) (pa_cons (pe_ix (ix_listK K rfl) (pv 0) pe_int (fun _ _ => rfl)) pa_nil)) (pv 1))) (pss_cons (ps_asg (pe_op op_fdivF (pe_callTy call_int1 (by rfl) T.b_int (by decide +kernel) (pa_cons (pe_ix (ix_listK K rfl) (pv 0) pe_int (fun _ _ => rfl)) pa_nil)) (pv 1)) (pg_sub (pv 0) pe_int set_list)) (pss_one (ps_ret (pv 2))))) pss_nil) (pss_cons (ps_asg (pe_op op_add (pe_ix (ix_listK K rfl) (pv 0) pe_int (fun _ _ => rfl)) pe_int) (pg_sub (pv 0) pe_int set_list)) (pss_cons (ps_set (i := 3) sc_draw.nd rfl (Or.inl rfl) (pe_op op_mod (pe_callTy call_int1 (by rfl) T.b_int (by decide +kernel) (pa_cons (pe_op op_add (pe_op op_add (pe_op op_mulI (pe_ix (ix_listK K rfl) (pv 0) pe_int (fun _ _ => rfl)) pe_int) (pe_op op_mulI (pe_ix (ix_listK K rfl) (pv 0) pe_int (fun _ _ => rfl)) pe_int)) pe_int) pa_nil)) (pe_op op_add (pe_op op_pow pe_int pe_int) pe_int))) (pss_cons (ps_set (i := 3) sc_draw.nd rfl (Or.inl rfl) (pe_op op_mod (pe_callTy call_int1 (by rfl) T.b_int (by decide +kernel) (pa_cons (pe_op op_add (pe_op op_mulI (pv 3) (pv 3)) (pe_op op_mulI (pe_ix (ix_listK K rfl) (pv 0) pe_int (fun _ _ => rfl)) pe_int)) pa_nil)) (pe_op op_add (pe_op op_pow pe_int pe_int) pe_int))) (pss_cons (ps_set (i := 3) sc_draw.nd rfl (Or.inl rfl) (pe_op op_mod (pe_callTy call_int1 (by rfl) T.b_int (by decide +kernel) (pa_cons (pe_op op_add (pe_op op_fdivF (pe_op op_mulI (pv 3) (pv 3)) (pe_op op_pow pe_int pe_int)) (pe_op op_mulI (pe_ix (ix_listK K rfl) (pv 0) pe_int (fun _ _ => rfl)) (pe_ix (ix_listK K rfl) (pv 0) pe_int (fun _ _ => rfl)))) pa_nil)) (pe_op op_add (pe_op op_pow pe_int pe_int) pe_int))) (pss_one (ps_ret (pe_op op_mod (pe_op op_fdivF (pe_callTy call_int1 (by rfl) T.b_int (by decide +kernel) (pa_cons (pe_op op_mulI (pv 3) (pe_op op_fdivF (pv 3) pe_int)) pa_nil)) (pe_op op_pow pe_int pe_int)) (pv 1))))))))), ?_⟩
  show (_ : TS) _ [some (.ref p_well_here), some v_many, none, none] _
  obtain ⟨b, hb, hm⟩ := bind_some hm
  refine q_ife (et_test (em_op vo_lt (el_ix (el_cell (i := 0) (j := 0) rfl rfl) em_int) em_int)) hb k (fun eb F H e k => ?_) (fun eb F H e k => ?_)
  ·
    subst eb
    have hm := hT hm
    obtain ⟨drawn_n, hx, hm⟩ := bind_some hm
    refine q_set (em_op vo_mod (em_cb vc_int (el_ix (el_cell (i := 0) (j := 0) rfl rfl) em_int)) (em_varf (i := 1) fl_int rfl r_many)) hx k fun v_drawn F H e k r_drawn => ?_
    obtain ⟨drawn, ez_⟩ : ∃ z, z = drawn_n := ⟨_, rfl⟩; subst ez_
    show (_ : TS) _ [some (.ref p_well_here), some v_many, some v_drawn, none] _
    obtain ⟨val, hx, hm⟩ := bind_some hm
    obtain ⟨ix, hi, hm⟩ := bind_some hm
    obtain ⟨well_here_n, hs, hm⟩ := bind_some hm
    refine q_sub (i := 0) (j := 0) rfl rfl (em_op vo_div (em_cb vc_int (el_ix (el_cell (i := 0) (j := 0) rfl rfl) em_int)) (em_varf (i := 1) fl_int rfl r_many)) em_int hx hi hs k fun F H e k => ?_
    obtain ⟨well_here, ez_⟩ : ∃ z, z = well_here_n := ⟨_, rfl⟩; subst ez_
    have k : Cov c F [(p_well_here, cLst rInt well_here)] H := k
    obtain ⟨rv, hv, hm⟩ := bind_some hm
    have hm := Option.some.inj hm
    cases hm
    exact a_ret (em_varf (i := 2) fl_int rfl r_drawn) hv k fun v F H e k r => hQ v F H (k.keepN 1) r
  ·
    subst eb
    have hm := hF hm
    obtain ⟨val, hx, hm⟩ := bind_some hm
    obtain ⟨ix, hi, hm⟩ := bind_some hm
    obtain ⟨well_here_n, hs, hm⟩ := bind_some hm
    refine q_sub (i := 0) (j := 0) rfl rfl (em_op vo_add (el_ix (el_cell (i := 0) (j := 0) rfl rfl) em_int) em_int) em_int hx hi hs k fun F H e k => ?_
    obtain ⟨well_here, ez_⟩ : ∃ z, z = well_here_n := ⟨_, rfl⟩; subst ez_
    have k : Cov c F [(p_well_here, cLst rInt well_here)] H := k
    obtain ⟨mixed_n, hx, hm⟩ := bind_some hm
    refine q_set (em_op vo_mod (em_cb vc_int (em_op vo_add (em_op vo_add (em_op vo_mul (el_ix (el_cell (i := 0) (j := 0) rfl rfl) em_int) em_int) (em_op vo_mul (el_ix (el_cell (i := 0) (j := 0) rfl rfl) em_int) em_int)) em_int)) (em_op vo_add (em_powC (n := 19) rfl (by decide) (by decide)) em_int)) hx k fun v_mixed F H e k r_mixed => ?_
    obtain ⟨mixed, ez_⟩ : ∃ z, z = mixed_n := ⟨_, rfl⟩; subst ez_
    show (_ : TS) _ [some (.ref p_well_here), some v_many, none, some v_mixed] _
    obtain ⟨mixed_n, hx, hm⟩ := bind_some hm
    refine q_set (em_op vo_mod (em_cb vc_int (em_op vo_add (em_op vo_mul (em_varf (i := 3) fl_int rfl r_mixed) (em_varf (i := 3) fl_int rfl r_mixed)) (em_op vo_mul (el_ix (el_cell (i := 0) (j := 0) rfl rfl) em_int) em_int))) (em_op vo_add (em_powC (n := 21) rfl (by decide) (by decide)) em_int)) hx k fun v_mixed F H e k r_mixed => ?_
    obtain ⟨mixed, ez_⟩ : ∃ z, z = mixed_n := ⟨_, rfl⟩; subst ez_
    show (_ : TS) _ [some (.ref p_well_here), some v_many, none, some v_mixed] _
    obtain ⟨mixed_n, hx, hm⟩ := bind_some hm
    refine q_set (em_op vo_mod (em_cb vc_int (em_op vo_add (em_op vo_div (em_op vo_mul (em_varf (i := 3) fl_int rfl r_mixed) (em_varf (i := 3) fl_int rfl r_mixed)) (em_powC (n := 9) rfl (by decide) (by decide))) (em_op vo_mul (el_ix (el_cell (i := 0) (j := 0) rfl rfl) em_int) (el_ix (el_cell (i := 0) (j := 0) rfl rfl) em_int)))) (em_op vo_add (em_powC (n := 24) rfl (by decide) (by decide)) em_int)) hx k fun v_mixed F H e k r_mixed => ?_
    obtain ⟨mixed, ez_⟩ : ∃ z, z = mixed_n := ⟨_, rfl⟩; subst ez_
    show (_ : TS) _ [some (.ref p_well_here), some v_many, none, some v_mixed] _
    obtain ⟨rv, hv, hm⟩ := bind_some hm
    have hm := Option.some.inj hm
    cases hm
    exact a_ret (em_op vo_mod (em_op vo_div (em_cb vc_int (em_op vo_mul (em_varf (i := 3) fl_int rfl r_mixed) (em_op vo_div (em_varf (i := 3) fl_int rfl r_mixed) em_int))) (em_powC (n := 7) rfl (by decide) (by decide))) (em_varf (i := 1) fl_int rfl r_many)) hv k fun v F H e k r => hQ v F H (k.keepN 1) r
abbrev s_spot : Stmt := topS 29
abbrev N_spot : List PySem.Str := ["_law_well_here", "_law_size", "_law_reach", "_law_turn"]
theorem sc_spot : FnScope N_spot ["_law_well_here", "_law_size", "_law_reach"] (defScope s_spot) := ⟨rfl, rfl, rfl, by decide +kernel, rfl, by decide +kernel, by decide +kernel⟩
def sp_spot (K : PySem.W.Frag) : Sp := (MPsp2 (fun z => cLst rInt z) rInt rInt (rTup K rInt) m_spot)
theorem ok_spot {P : Program} {w : World} {K : PySem.W.Frag} {mg : PySem.Str → Option Value} {base : Heap} (T : Txt mg) (L : ClsF K mg) (E_ : ErrF K mg erL) (C_draw : Cal P w K mg base 1 "_law_draw" ["_law_well_here", "_law_many"] (sp_draw K) (fun _ => True)) {f : Addr} {fd : FuncData} (Fn : FnP K "_law_spot" s_spot f fd) : FnOk P w K mg base CX0 2 f fd ["_law_well_here", "_law_size", "_law_reach"] (sp_spot K) := by
  obtain ⟨f_draw, fd_draw, G_draw, g_draw, kp_draw, b_draw, _⟩ := C_draw.ex
  refine Fn.ok sc_spot (fun vs H Q E h => MPsp2_len h) (fun cdv A outer s H vs Q E hr h => ?_)
  obtain ⟨F, p_well_here, v_size, v_reach, well_here, size, reach, res, s_out, rfl, k, r_size, r_reach, hm, hQ⟩ := h
  generalize hc : Act.mk H F [p_well_here] = c at k hQ
  unfold m_spot at hm
  refine ⟨_, PSs.nox (pss_one (ps_ret (pe_callTy (call_tuple_ofK K rfl) (by rfl) T.b_tuple (by decide +kernel) (pa_cons (pe_lc (own := [("_law_turn", 3)]) (g := (gName 3)) (tt := tYes) rfl sc_spot.nd (pi_range1 (by rfl) T.b_range (pa_cons (pv 1) pa_nil)) (blkOk_by (N := N_spot) (sc := defScope s_spot) (by decide +kernel)) (fun _ _ _ _ _ => (pg_name (i := 3) sc_spot.nd rfl (Or.inl rfl))) (fun _ _ _ _ _ => pts_nil) (fun _ _ _ _ _ => (pe_op op_sub (pe_call G_draw (hr.mono (by decide)) (by rfl) g_draw kp_draw b_draw .nil pass0 (pa_cons (pv 0) (pa_cons (pe_op op_add (pe_op op_mulI pe_int (pv 2)) pe_int) pa_nil))) (pv 2)))) pa_nil)))), ?_⟩
  show (_ : TS) _ [some (.ref p_well_here), some v_size, some v_reach, none] _
  have hv := hm
  have hm : True := trivial
  cases hm
  exact a_retS (cs' := (fun well_here => [(p_well_here, cLst rInt well_here)])) (sm_tuple (cs := (fun well_here => [(p_well_here, cLst rInt well_here)])) (s := well_here) (SF.sm (cs := (fun well_here => [(p_well_here, cLst rInt well_here)])) (s := well_here) (sf_lc (K := K) (cs := (fun well_here => [(p_well_here, cLst rInt well_here)])) (s := well_here) (f := fun (turn : Int) => fun well_here => (s2 (fun a b s => sK s (subG a b)) (s1 (fun a0 s => m_draw s a0) (sP (o2 addG (o2 mulG (some 2) (some reach)) (some 1)) well_here)) fun well_here => (sP (some reach) well_here))) (S := (fun d F1 σ2 => ∃ v_turn, σ2 = [some (.ref p_well_here), some v_size, some v_reach, some v_turn] ∧ rInt.r F1 v_turn d)) (ei_rng1 (em_varf (i := 1) fl_int rfl r_size)) (gt_name (fun _ => rfl)) (fun d F1 σ2 hs => by obtain ⟨_, rfl, _⟩ := hs; rfl) (by intro turn F1 σ2 well_here e1 hs; obtain ⟨v_turn, rfl, r_turn⟩ := hs; exact (sm_op (cs := (fun well_here => [(p_well_here, cLst rInt well_here)])) (s := well_here) vo_sub (sm_Mcall1 (cs := (fun well_here => [(p_well_here, cLst rInt well_here)])) (s := well_here) (cell := fun z => cLst rInt z) (i0 := 0) (j0 := 0) rfl (fun _ => rfl) (fun _ _ => rfl) (EM.sm (cs := (fun well_here => [(p_well_here, cLst rInt well_here)])) (s := well_here) (em_op vo_add (em_op vo_mul em_int (em_varf (i := 2) fl_int rfl r_reach)) em_int))) fun well_here => (EM.sm (cs := (fun well_here => [(p_well_here, cLst rInt well_here)])) (s := well_here) (em_varf (i := 2) fl_int rfl r_reach)))) (fun _ _ => rfl)))) hv k fun v F H e k r => hQ v F H (k.keepN 1) r
abbrev s_refused_shift : Stmt := topS 30
abbrev N_refused_shift : List PySem.Str := ["_law_scene", "_law_offset", "_law_value", "e"]
theorem sc_refused_shift : FnScope N_refused_shift ["_law_scene", "_law_offset"] (defScope s_refused_shift) := ⟨rfl, rfl, rfl, by decide +kernel, rfl, by decide +kernel, by decide +kernel⟩
def sp_refused_shift (K : PySem.W.Frag) : Sp := (Psp2 (rO4 (He.ga K "Picture") "dimension" "words" "seen_places" "hidden_places" rInt (rDic rStr) (rLst (rTup K rInt)) (rLst (rTup K rInt))) (rTup K rInt) (rDat K) m_refused_shift)
theorem ok_refused_shift {P : Program} {w : World} {K : PySem.W.Frag} {mg : PySem.Str → Option Value} {base : Heap} (T : Txt mg) (L : ClsF K mg) (E_ : ErrF K mg erL) (C_shows : CalX P w K mg base 5 "shows" ["picture", "shift"] (sp_shows K) (fun fd => KBn K fd ["picture", "shift"] 0 ["shift", "picture"] (fun vs zs => [zs.getD 1 .none, zs.getD 0 .none]) (fun vs zs => [zs.getD 1 .non, zs.getD 0 .non]))) {f : Addr} {fd : FuncData} (Fn : FnP K "_law_refused_shift" s_refused_shift f fd) : FnOk P w K mg base CX0 6 f fd ["_law_scene", "_law_offset"] (sp_refused_shift K) := by
  obtain ⟨f_shows, fd_shows, G_shows, g_shows, kp_shows, b_shows, kb_shows_0⟩ := C_shows.ex
  refine Fn.ok sc_refused_shift (fun vs H Q E h => Psp2_len h) (fun cdv A outer s H vs Q E hr h => ?_)
  obtain ⟨F, v_scene, v_offset, scene, offset, res, rfl, ex, r_scene, r_offset, hm, hQ⟩ := h
  have k := Cov.init ex
  generalize hc : Act.mk H F [] = c at k hQ
  unfold m_refused_shift at hm
  refine ⟨_, PSs.nox (pss_cons (ps_set (i := 2) sc_refused_shift.nd rfl (Or.inl rfl) pe_non) (Evl.pss_cut (ps_try_T (i := 3) rfl rfl rfl sc_refused_shift.nd rfl (by rfl) ⟨by rfl, by decide, .inl (E_.glo _ er_InvalidPlace)⟩ takes0 (fun W pn xe tkW _ => (pss_one (ps_expr (pe_callS G_shows (hr.mono (by decide)) (by rfl) g_shows kp_shows b_shows (fun σ => passAt tkW σ) (pa_cons (pv 0) (pa_cons (pv 1) pa_nil)))))) (fun a_ pn => (pss_one (ps_set (i := 2) sc_refused_shift.nd rfl (Or.inl rfl) (pe_lst (pa_cons (pe_xfT K rfl (pv 3)) (pa_cons (pe_callB (call_isX K rfl) (by rfl) T.b_isinstance (by decide +kernel) (pa_cons (pv 3) (pa_cons (pe_glob (v := .ref (He.ga K "PostError")) (by rfl) (E_.glo _ er_PostError) rfl) pa_nil))) (pa_cons (pe_callB (call_isX K rfl) (by rfl) T.b_isinstance (by decide +kernel) (pa_cons (pv 3) (pa_cons (pe_glob (v := .ref (He.ga K "InvalidNumber")) (by rfl) (E_.glo _ er_InvalidNumber) rfl) pa_nil))) pa_nil)))))))) (pss_one (ps_ret (pv 2))))), ?_⟩
  show (_ : TS) _ [some v_scene, some v_offset, none, none] _
  obtain ⟨value_n, hx, hm⟩ := bind_some hm
  refine q_set (em_datN (K := K)) hx k fun v_value F H e k r_value => ?_
  obtain ⟨value, ez_⟩ : ∃ z, z = value_n := ⟨_, rfl⟩; subst ez_
  show (_ : TS) _ [some v_scene, some v_offset, some v_value, none] _
  have r_scene := (rO4 (He.ga K "Picture") "dimension" "words" "seen_places" "hidden_places" rInt (rDic rStr) (rLst (rTup K rInt)) (rLst (rTup K rInt))).up e r_scene
  have r_offset := (rTup K rInt).up e r_offset
  obtain ⟨value_j, hj, hm⟩ := bind_some hm
  refine q_cut (Mid := fun σ1 H1 => ∃ F1 v_value, σ1 = [some v_scene, some v_offset, some v_value, none] ∧ Ex F F1 ∧ Cov c F1 [] H1 ∧ (rDat K).r F1 v_value value_j) ?_ ?_
  ·
    obtain ⟨r9_, hb_, hj2⟩ := bind_some hj
    have hm := hb_
    have eJ9 : Ex F F := Evl.Ex.refl F
    show (_ : TS) _ [some v_scene, some v_offset, some v_value, none] _
    obtain ⟨rx, hx, hm⟩ := bind_some hm
    refine a_dropX (ex_eq (m' := (m_shows scene offset)) (ex_call (eag_cons (em_var (i := 0) rfl r_scene) (eag_cons (em_var (i := 1) rfl r_offset) eag_nil))) (by exact rfl)) hx k (fun er ee cls dd F H e k rE => ?_) (fun _ ex_ F H e k => ?_)
    ·
      subst ee
      try dsimp only at hm
      have r_scene := (rO4 (He.ga K "Picture") "dimension" "words" "seen_places" "hidden_places" rInt (rDic rStr) (rLst (rTup K rInt)) (rLst (rTup K rInt))).up e r_scene
      have r_offset := (rTup K rInt).up e r_offset
      have r_value := (rDat K).up e r_value
      have eJ9 := eJ9.trans e
      have hm := Option.some.inj hm
      subst hm
      try dsimp only at hj2
      obtain ⟨hL_, dd_, fs_, pv_, rfl, rfl, hF_, hl_, hp_⟩ := rE
      refine ⟨subE _ "InvalidPlace", E_.exm _ hL_ _ er_InvalidPlace, fun eb_ a_ ha_ => ?_, fun eb_ => ?_⟩
      ·
        rw [if_pos eb_] at hj2
        obtain ⟨F, e, k, r_e_⟩ := k.caught ha_ hL_ hF_ hl_ hp_
        have r_scene := (rO4 (He.ga K "Picture") "dimension" "words" "seen_places" "hidden_places" rInt (rDic rStr) (rLst (rTup K rInt)) (rLst (rTup K rInt))).up e r_scene
        have r_offset := (rTup K rInt).up e r_offset
        have r_value := (rDat K).up e r_value
        have eJ9 := eJ9.trans e
        have hm := hj2
        obtain ⟨e_, ez_⟩ : ∃ z, z = er := ⟨_, rfl⟩; subst ez_
        show (_ : TS) _ [some v_scene, some v_offset, some v_value, some (.ref a_)] _
        obtain ⟨value_n, hx, hm⟩ := bind_some hm
        refine a_set (em_eq (m' := (some (PyData.list [(payD e_.pay), (PyData.bool (subE e_.cls "PostError")), (PyData.bool (subE e_.cls "InvalidNumber"))]))) (em_mapR (ra := (rLst (rDat K))) (g := PyData.list) (dat_lst (K := K)) ((ef_lst (ea_cons (em_eq (m' := (some (payD e_.pay))) (em_mapR (ra := (rPay K)) (g := payD) (dat_pay (K := K)) (em_val E_ (em_var (i := 3) rfl r_e_))) rfl) (ea_cons (em_eq (m' := (some (PyData.bool (subE e_.cls "PostError")))) (em_mapR (ra := rBool) (g := PyData.bool) (to_dat (K := K) dq_bool) (em_isX E_ er_PostError (em_var (i := 3) rfl r_e_))) rfl) (ea_cons (em_eq (m' := (some (PyData.bool (subE e_.cls "InvalidNumber")))) (em_mapR (ra := rBool) (g := PyData.bool) (to_dat (K := K) dq_bool) (em_isX E_ er_InvalidNumber (em_var (i := 3) rfl r_e_))) rfl) ea_nil))))).em) rfl) hx k fun v_value F H e k r_value => ?_
        obtain ⟨value, ez_⟩ : ∃ z, z = value_n := ⟨_, rfl⟩; subst ez_
        have r_scene := (rO4 (He.ga K "Picture") "dimension" "words" "seen_places" "hidden_places" rInt (rDic rStr) (rLst (rTup K rInt)) (rLst (rTup K rInt))).up e r_scene
        have r_offset := (rTup K rInt).up e r_offset
        have r_e_ := (rExc K erL).up e r_e_
        have eJ9 := eJ9.trans e
        cases hm
        exact ⟨F, v_value, rfl, eJ9, k, r_value⟩
      ·
        rw [if_neg (by rw [eb_]; decide)] at hj2
        cases hj2
    subst ex_
    try dsimp only at hm
    have r_scene := (rO4 (He.ga K "Picture") "dimension" "words" "seen_places" "hidden_places" rInt (rDic rStr) (rLst (rTup K rInt)) (rLst (rTup K rInt))).up e r_scene
    have r_offset := (rTup K rInt).up e r_offset
    have r_value := (rDat K).up e r_value
    have eJ9 := eJ9.trans e
    have hm := Option.some.inj hm
    subst hm
    try dsimp only at hj2
    cases hj2
    exact ⟨F, v_value, rfl, eJ9, k, r_value⟩
  rintro σ1 H ⟨F, v_value, rfl, e, k, r_value⟩
  clear hj
  obtain ⟨value, ez_⟩ : ∃ z, z = value_j := ⟨_, rfl⟩; subst ez_
  have r_scene := (rO4 (He.ga K "Picture") "dimension" "words" "seen_places" "hidden_places" rInt (rDic rStr) (rLst (rTup K rInt)) (rLst (rTup K rInt))).up e r_scene
  have r_offset := (rTup K rInt).up e r_offset
  obtain ⟨rv, hv, hm⟩ := bind_some hm
  have hm := Option.some.inj hm
  cases hm
  exact a_ret (em_var (i := 2) rfl r_value) hv k fun v F H e k r => hQ v F H k.dropAll r
abbrev s_refused_prime : Stmt := topS 31
abbrev N_refused_prime : List PySem.Str := ["_law_scene", "_law_prime", "_law_told", "_law_value", "e"]
theorem sc_refused_prime : FnScope N_refused_prime ["_law_scene", "_law_prime", "_law_told"] (defScope s_refused_prime) := ⟨rfl, rfl, rfl, by decide +kernel, rfl, by decide +kernel, by decide +kernel⟩
def sp_refused_prime (K : PySem.W.Frag) : Sp := (Psp3 (rO4 (He.ga K "Picture") "dimension" "words" "seen_places" "hidden_places" rInt (rDic rStr) (rLst (rTup K rInt)) (rLst (rTup K rInt))) rInt (rOpt (rLst (rTup K rInt))) (rDat K) m_refused_prime)
theorem ok_refused_prime {P : Program} {w : World} {K : PySem.W.Frag} {mg : PySem.Str → Option Value} {base : Heap} (T : Txt mg) (L : ClsF K mg) (E_ : ErrF K mg erL) (C_classes : CalX P w K mg base 4 "classes" ["picture", "prime"] (sp_classes K) (fun _ => True)) (C_judge_barring : CalX P w K mg base 4 "judge_barring" ["picture", "prime", "told"] (sp_judge_barring K) (fun _ => True)) {f : Addr} {fd : FuncData} (Fn : FnP K "_law_refused_prime" s_refused_prime f fd) : FnOk P w K mg base CX0 5 f fd ["_law_scene", "_law_prime", "_law_told"] (sp_refused_prime K) := by
  obtain ⟨f_classes, fd_classes, G_classes, g_classes, kp_classes, b_classes, _⟩ := C_classes.ex
  obtain ⟨f_judge_barring, fd_judge_barring, G_judge_barring, g_judge_barring, kp_judge_barring, b_judge_barring, _⟩ := C_judge_barring.ex
  refine Fn.ok sc_refused_prime (fun vs H Q E h => Psp3_len h) (fun cdv A outer s H vs Q E hr h => ?_)
  obtain ⟨F, v_scene, v_prime, v_told, scene, prime, told, res, rfl, ex, r_scene, r_prime, r_told, hm, hQ⟩ := h
  have k := Cov.init ex
  generalize hc : Act.mk H F [] = c at k hQ
  unfold m_refused_prime at hm
  refine ⟨_, PSs.nox (pss_cons (ps_set (i := 3) sc_refused_prime.nd rfl (Or.inl rfl) pe_non) (Evl.pss_cut (ps_try_T (i := 4) rfl rfl rfl sc_refused_prime.nd rfl (by rfl) ⟨by rfl, by decide, .inl (E_.glo _ er_InvalidNumber)⟩ takes0 (fun W pn xe tkW _ => (pss_one (ps_if (pt_cmpR op_isN (pv 2) pe_non (nomark _)) (pss_one (ps_expr (pe_callS G_classes (hr.mono (by decide)) (by rfl) g_classes kp_classes b_classes (fun σ => passAt tkW σ) (pa_cons (pv 0) (pa_cons (pv 1) pa_nil))))) (pss_one (ps_expr (pe_callS G_judge_barring (hr.mono (by decide)) (by rfl) g_judge_barring kp_judge_barring b_judge_barring (fun σ => passAt tkW σ) (pa_cons (pv 0) (pa_cons (pv 1) (pa_cons (pv 2) pa_nil))))))))) (fun a_ pn => (pss_one (ps_set (i := 3) sc_refused_prime.nd rfl (Or.inl rfl) (pe_lst (pa_cons (pe_xfT K rfl (pv 4)) (pa_cons (pe_callB (call_isX K rfl) (by rfl) T.b_isinstance (by decide +kernel) (pa_cons (pv 4) (pa_cons (pe_glob (v := .ref (He.ga K "PostError")) (by rfl) (E_.glo _ er_PostError) rfl) pa_nil))) (pa_cons (pe_callB (call_isX K rfl) (by rfl) T.b_isinstance (by decide +kernel) (pa_cons (pv 4) (pa_cons (pe_glob (v := .ref (He.ga K "InvalidPlace")) (by rfl) (E_.glo _ er_InvalidPlace) rfl) pa_nil))) pa_nil)))))))) (pss_one (ps_ret (pv 3))))), ?_⟩
  show (_ : TS) _ [some v_scene, some v_prime, some v_told, none, none] _
  obtain ⟨value_n, hx, hm⟩ := bind_some hm
  refine q_set (em_datN (K := K)) hx k fun v_value F H e k r_value => ?_
  obtain ⟨value, ez_⟩ : ∃ z, z = value_n := ⟨_, rfl⟩; subst ez_
  show (_ : TS) _ [some v_scene, some v_prime, some v_told, some v_value, none] _
  have r_scene := (rO4 (He.ga K "Picture") "dimension" "words" "seen_places" "hidden_places" rInt (rDic rStr) (rLst (rTup K rInt)) (rLst (rTup K rInt))).up e r_scene
  have r_told := (rOpt (rLst (rTup K rInt))).up e r_told
  obtain ⟨value_j, hj, hm⟩ := bind_some hm
  refine q_cut (Mid := fun σ1 H1 => ∃ F1 v_value, σ1 = [some v_scene, some v_prime, some v_told, some v_value, none] ∧ Ex F F1 ∧ Cov c F1 [] H1 ∧ (rDat K).r F1 v_value value_j) ?_ ?_
  ·
    obtain ⟨r9_, hb_, hj2⟩ := bind_some hj
    have hm := hb_
    have eJ10 : Ex F F := Evl.Ex.refl F
    show (_ : TS) _ [some v_scene, some v_prime, some v_told, some v_value, none] _
    obtain ⟨b, hb, hm⟩ := bind_some hm
    refine a_if (et_test (em_isN (em_var (i := 2) rfl r_told))) hb k (fun eb F H e k => ?_) (fun eb F H e k => ?_)
    ·
      subst eb
      have hm := hT hm
      have r_scene := (rO4 (He.ga K "Picture") "dimension" "words" "seen_places" "hidden_places" rInt (rDic rStr) (rLst (rTup K rInt)) (rLst (rTup K rInt))).up e r_scene
      have r_told := (rOpt (rLst (rTup K rInt))).up e r_told
      have r_value := (rDat K).up e r_value
      have eJ10 := eJ10.trans e
      obtain ⟨rx, hx, hm⟩ := bind_some hm
      refine a_dropX (ex_eq (m' := (m_classes scene prime)) (ex_call (eag_cons (em_var (i := 0) rfl r_scene) (eag_cons (em_varf (i := 1) fl_int rfl r_prime) eag_nil))) (by exact rfl)) hx k (fun er ee cls dd F H e k rE => ?_) (fun _ ex_ F H e k => ?_)
      ·
        subst ee
        try dsimp only at hm
        have r_scene := (rO4 (He.ga K "Picture") "dimension" "words" "seen_places" "hidden_places" rInt (rDic rStr) (rLst (rTup K rInt)) (rLst (rTup K rInt))).up e r_scene
        have r_told := (rOpt (rLst (rTup K rInt))).up e r_told
        have r_value := (rDat K).up e r_value
        have eJ10 := eJ10.trans e
        have hm := Option.some.inj hm
        subst hm
        try dsimp only at hj2
        obtain ⟨hL_, dd_, fs_, pv_, rfl, rfl, hF_, hl_, hp_⟩ := rE
        refine ⟨subE _ "InvalidNumber", E_.exm _ hL_ _ er_InvalidNumber, fun eb_ a_ ha_ => ?_, fun eb_ => ?_⟩
        ·
          rw [if_pos eb_] at hj2
          obtain ⟨F, e, k, r_e_⟩ := k.caught ha_ hL_ hF_ hl_ hp_
          have r_scene := (rO4 (He.ga K "Picture") "dimension" "words" "seen_places" "hidden_places" rInt (rDic rStr) (rLst (rTup K rInt)) (rLst (rTup K rInt))).up e r_scene
          have r_told := (rOpt (rLst (rTup K rInt))).up e r_told
          have r_value := (rDat K).up e r_value
          have eJ10 := eJ10.trans e
          have hm := hj2
          obtain ⟨e_, ez_⟩ : ∃ z, z = er := ⟨_, rfl⟩; subst ez_
          show (_ : TS) _ [some v_scene, some v_prime, some v_told, some v_value, some (.ref a_)] _
          obtain ⟨value_n, hx, hm⟩ := bind_some hm
          refine a_set (em_eq (m' := (some (PyData.list [(payD e_.pay), (PyData.bool (subE e_.cls "PostError")), (PyData.bool (subE e_.cls "InvalidPlace"))]))) (em_mapR (ra := (rLst (rDat K))) (g := PyData.list) (dat_lst (K := K)) ((ef_lst (ea_cons (em_eq (m' := (some (payD e_.pay))) (em_mapR (ra := (rPay K)) (g := payD) (dat_pay (K := K)) (em_val E_ (em_var (i := 4) rfl r_e_))) rfl) (ea_cons (em_eq (m' := (some (PyData.bool (subE e_.cls "PostError")))) (em_mapR (ra := rBool) (g := PyData.bool) (to_dat (K := K) dq_bool) (em_isX E_ er_PostError (em_var (i := 4) rfl r_e_))) rfl) (ea_cons (em_eq (m' := (some (PyData.bool (subE e_.cls "InvalidPlace")))) (em_mapR (ra := rBool) (g := PyData.bool) (to_dat (K := K) dq_bool) (em_isX E_ er_InvalidPlace (em_var (i := 4) rfl r_e_))) rfl) ea_nil))))).em) rfl) hx k fun v_value F H e k r_value => ?_
          obtain ⟨value, ez_⟩ : ∃ z, z = value_n := ⟨_, rfl⟩; subst ez_
          have r_scene := (rO4 (He.ga K "Picture") "dimension" "words" "seen_places" "hidden_places" rInt (rDic rStr) (rLst (rTup K rInt)) (rLst (rTup K rInt))).up e r_scene
          have r_told := (rOpt (rLst (rTup K rInt))).up e r_told
          have r_e_ := (rExc K erL).up e r_e_
          have eJ10 := eJ10.trans e
          cases hm
          exact ⟨F, v_value, rfl, eJ10, k, r_value⟩
        ·
          rw [if_neg (by rw [eb_]; decide)] at hj2
          cases hj2
      subst ex_
      try dsimp only at hm
      have r_scene := (rO4 (He.ga K "Picture") "dimension" "words" "seen_places" "hidden_places" rInt (rDic rStr) (rLst (rTup K rInt)) (rLst (rTup K rInt))).up e r_scene
      have r_told := (rOpt (rLst (rTup K rInt))).up e r_told
      have r_value := (rDat K).up e r_value
      have eJ10 := eJ10.trans e
      have hm := Option.some.inj hm
      subst hm
      try dsimp only at hj2
      cases hj2
      exact ⟨F, v_value, rfl, eJ10, k, r_value⟩
    ·
      subst eb
      have hm := hF hm
      have r_scene := (rO4 (He.ga K "Picture") "dimension" "words" "seen_places" "hidden_places" rInt (rDic rStr) (rLst (rTup K rInt)) (rLst (rTup K rInt))).up e r_scene
      have r_told := (rOpt (rLst (rTup K rInt))).up e r_told
      have r_value := (rDat K).up e r_value
      have eJ10 := eJ10.trans e
      obtain ⟨rx, hx, hm⟩ := bind_some hm
      refine a_dropX (ex_eq (m' := (o3 m_judge_barring (some scene) (some prime) told)) (ex_call (eag_cons (em_var (i := 0) rfl r_scene) (eag_cons (em_varf (i := 1) fl_int rfl r_prime) (eag_cons (em_unO (em_var (i := 2) rfl r_told)) eag_nil)))) (by exact (gx3 (f := m_judge_barring)))) hx k (fun er ee cls dd F H e k rE => ?_) (fun _ ex_ F H e k => ?_)
      ·
        subst ee
        try dsimp only at hm
        have r_scene := (rO4 (He.ga K "Picture") "dimension" "words" "seen_places" "hidden_places" rInt (rDic rStr) (rLst (rTup K rInt)) (rLst (rTup K rInt))).up e r_scene
        have r_told := (rOpt (rLst (rTup K rInt))).up e r_told
        have r_value := (rDat K).up e r_value
        have eJ10 := eJ10.trans e
        have hm := Option.some.inj hm
        subst hm
        try dsimp only at hj2
        obtain ⟨hL_, dd_, fs_, pv_, rfl, rfl, hF_, hl_, hp_⟩ := rE
        refine ⟨subE _ "InvalidNumber", E_.exm _ hL_ _ er_InvalidNumber, fun eb_ a_ ha_ => ?_, fun eb_ => ?_⟩
        ·
          rw [if_pos eb_] at hj2
          obtain ⟨F, e, k, r_e_⟩ := k.caught ha_ hL_ hF_ hl_ hp_
          have r_scene := (rO4 (He.ga K "Picture") "dimension" "words" "seen_places" "hidden_places" rInt (rDic rStr) (rLst (rTup K rInt)) (rLst (rTup K rInt))).up e r_scene
          have r_told := (rOpt (rLst (rTup K rInt))).up e r_told
          have r_value := (rDat K).up e r_value
          have eJ10 := eJ10.trans e
          have hm := hj2
          obtain ⟨e_, ez_⟩ : ∃ z, z = er := ⟨_, rfl⟩; subst ez_
          show (_ : TS) _ [some v_scene, some v_prime, some v_told, some v_value, some (.ref a_)] _
          obtain ⟨value_n, hx, hm⟩ := bind_some hm
          refine a_set (em_eq (m' := (some (PyData.list [(payD e_.pay), (PyData.bool (subE e_.cls "PostError")), (PyData.bool (subE e_.cls "InvalidPlace"))]))) (em_mapR (ra := (rLst (rDat K))) (g := PyData.list) (dat_lst (K := K)) ((ef_lst (ea_cons (em_eq (m' := (some (payD e_.pay))) (em_mapR (ra := (rPay K)) (g := payD) (dat_pay (K := K)) (em_val E_ (em_var (i := 4) rfl r_e_))) rfl) (ea_cons (em_eq (m' := (some (PyData.bool (subE e_.cls "PostError")))) (em_mapR (ra := rBool) (g := PyData.bool) (to_dat (K := K) dq_bool) (em_isX E_ er_PostError (em_var (i := 4) rfl r_e_))) rfl) (ea_cons (em_eq (m' := (some (PyData.bool (subE e_.cls "InvalidPlace")))) (em_mapR (ra := rBool) (g := PyData.bool) (to_dat (K := K) dq_bool) (em_isX E_ er_InvalidPlace (em_var (i := 4) rfl r_e_))) rfl) ea_nil))))).em) rfl) hx k fun v_value F H e k r_value => ?_
          obtain ⟨value, ez_⟩ : ∃ z, z = value_n := ⟨_, rfl⟩; subst ez_
          have r_scene := (rO4 (He.ga K "Picture") "dimension" "words" "seen_places" "hidden_places" rInt (rDic rStr) (rLst (rTup K rInt)) (rLst (rTup K rInt))).up e r_scene
          have r_told := (rOpt (rLst (rTup K rInt))).up e r_told
          have r_e_ := (rExc K erL).up e r_e_
          have eJ10 := eJ10.trans e
          cases hm
          exact ⟨F, v_value, rfl, eJ10, k, r_value⟩
        ·
          rw [if_neg (by rw [eb_]; decide)] at hj2
          cases hj2
      subst ex_
      try dsimp only at hm
      have r_scene := (rO4 (He.ga K "Picture") "dimension" "words" "seen_places" "hidden_places" rInt (rDic rStr) (rLst (rTup K rInt)) (rLst (rTup K rInt))).up e r_scene
      have r_told := (rOpt (rLst (rTup K rInt))).up e r_told
      have r_value := (rDat K).up e r_value
      have eJ10 := eJ10.trans e
      have hm := Option.some.inj hm
      subst hm
      try dsimp only at hj2
      cases hj2
      exact ⟨F, v_value, rfl, eJ10, k, r_value⟩
  rintro σ1 H ⟨F, v_value, rfl, e, k, r_value⟩
  clear hj
  obtain ⟨value, ez_⟩ : ∃ z, z = value_j := ⟨_, rfl⟩; subst ez_
  have r_scene := (rO4 (He.ga K "Picture") "dimension" "words" "seen_places" "hidden_places" rInt (rDic rStr) (rLst (rTup K rInt)) (rLst (rTup K rInt))).up e r_scene
  have r_told := (rOpt (rLst (rTup K rInt))).up e r_told
  obtain ⟨rv, hv, hm⟩ := bind_some hm
  have hm := Option.some.inj hm
  cases hm
  exact a_ret (em_var (i := 3) rfl r_value) hv k fun v F H e k r => hQ v F H k.dropAll r
abbrev s_primes_right : Stmt := topS 32
abbrev N_primes_right : List PySem.Str := ["_law_well_here", "_law_scene", "_law_size", "_law_good", "_law_asked", "_law_number", "_law_due", "_law_told"]
theorem sc_primes_right : FnScope N_primes_right ["_law_well_here", "_law_scene", "_law_size"] (defScope s_primes_right) := ⟨rfl, rfl, rfl, by decide +kernel, rfl, by decide +kernel, by decide +kernel⟩
def sp_primes_right (K : PySem.W.Frag) : Sp := (MPsp2 (fun z => cLst rInt z) (rO4 (He.ga K "Picture") "dimension" "words" "seen_places" "hidden_places" rInt (rDic rStr) (rLst (rTup K rInt)) (rLst (rTup K rInt))) rInt rBool m_primes_right)
theorem ok_primes_right {P : Program} {w : World} {K : PySem.W.Frag} {mg : PySem.Str → Option Value} {base : Heap} (T : Txt mg) (L : ClsF K mg) (E_ : ErrF K mg erL) (C_Picture_seen : CalP P w K mg base 1 (He.ga K "Picture") "seen" ["self"] (sp_Picture_seen K) (fun _ => True)) (C_classes : CalX P w K mg base 4 "classes" ["picture", "prime"] (sp_classes K) (fun _ => True)) (C_judge_barring : CalX P w K mg base 4 "judge_barring" ["picture", "prime", "told"] (sp_judge_barring K) (fun _ => True)) (C_draw : Cal P w K mg base 1 "_law_draw" ["_law_well_here", "_law_many"] (sp_draw K) (fun _ => True)) (C_refused_prime : Cal P w K mg base 5 "_law_refused_prime" ["_law_scene", "_law_prime", "_law_told"] (sp_refused_prime K) (fun _ => True)) {f : Addr} {fd : FuncData} (Fn : FnP K "_law_primes_right" s_primes_right f fd) : FnOk P w K mg base CX0 6 f fd ["_law_well_here", "_law_scene", "_law_size"] (sp_primes_right K) := by
  obtain ⟨f_Picture_seen, fd_Picture_seen, p_Picture_seen, G_Picture_seen, P_Picture_seen, b_Picture_seen, _⟩ := C_Picture_seen.ex
  obtain ⟨f_classes, fd_classes, G_classes, g_classes, kp_classes, b_classes, _⟩ := C_classes.ex
  obtain ⟨f_judge_barring, fd_judge_barring, G_judge_barring, g_judge_barring, kp_judge_barring, b_judge_barring, _⟩ := C_judge_barring.ex
  obtain ⟨f_draw, fd_draw, G_draw, g_draw, kp_draw, b_draw, _⟩ := C_draw.ex
  obtain ⟨f_refused_prime, fd_refused_prime, G_refused_prime, g_refused_prime, kp_refused_prime, b_refused_prime, _⟩ := C_refused_prime.ex
  refine Fn.ok sc_primes_right (fun vs H Q E h => MPsp2_len h) (fun cdv A outer s H vs Q E hr h => ?_)
  obtain ⟨F, p_well_here, v_scene, v_size, well_here, scene, size, res, s_out, rfl, k, r_scene, r_size, hm, hQ⟩ := h
  generalize hc : Act.mk H F [p_well_here] = c at k hQ
  unfold m_primes_right at hm
  refine ⟨_, PSs.nox (pss_cons (ps_set (i := 3) sc_primes_right.nd rfl (Or.inl rfl) (pe_ix (ix_listK K rfl) (pe_lst (pa_cons (pe_lst (pa_cons pe_int (pa_cons pe_int (pa_cons pe_int (pa_cons pe_int pa_nil))))) (pa_cons (pe_lst (pa_cons pe_int (pa_cons pe_int pa_nil))) pa_nil))) (pe_op op_sub (pv 2) pe_int) (fun _ _ => rfl))) (pss_cons (ps_set (i := 4) sc_primes_right.nd rfl (Or.inl rfl) (pe_op op_cat (pe_lc (own := [("_law_number", 5)]) (g := (gName 5)) (tt := tYes) rfl sc_primes_right.nd (pi_range1 (by rfl) T.b_range (pa_cons pe_int pa_nil)) (blkOk_by (N := N_primes_right) (sc := defScope s_primes_right) (by decide +kernel)) (fun _ _ _ _ _ => (pg_name (i := 5) sc_primes_right.nd rfl (Or.inl rfl))) (fun _ _ _ _ _ => pts_nil) (fun _ _ _ _ _ => (pe_op op_sub (pv 5) pe_int))) (pe_lst (pa_cons pe_int (pa_cons pe_int pa_nil))))) (pss_cons (ps_set (i := 4) sc_primes_right.nd rfl (Or.inl rfl) (pe_op op_cat (pv 4) (pe_lst (pa_cons (pe_op op_add (pe_call G_draw (hr.mono (by decide)) (by rfl) g_draw kp_draw b_draw .nil pass0 (pa_cons (pv 0) (pa_cons (pe_op op_pow pe_int pe_int) pa_nil))) pe_int) (pa_cons (pe_op op_sub pe_int (pe_call G_draw (hr.mono (by decide)) (by rfl) g_draw kp_draw b_draw .nil pass0 (pa_cons (pv 0) (pa_cons (pe_op op_pow pe_int pe_int) pa_nil)))) pa_nil))))) (pss_cons (ps_for PassesOwn.never rfl (pi_listK K rfl (pv 4)) (pg_name (i := 5) sc_primes_right.nd rfl (Or.inl rfl)) (pss_cons (ps_set (i := 6) sc_primes_right.nd rfl (Or.inl rfl) (pe_ifExp (pt_cmpR (op_inDK K rfl (un65 hr)) (pv 5) (pv 3) rfl) pe_non (pe_lst (pa_cons (pv 5) (pa_cons pe_bl (pa_cons pe_bl pa_nil)))))) (pss_cons (ps_for PassesOwn.never rfl (pi_listK K rfl (pe_lst (pa_cons pe_non (pa_cons (pe_lst pa_nil) (pa_cons (pe_prop (pv 1) L.cl_Picture P_Picture_seen G_Picture_seen (hr.mono (by decide)) b_Picture_seen .nil pass0 (by rfl)) pa_nil))))) (pg_name (i := 7) sc_primes_right.nd rfl (Or.inl rfl)) (pss_one (ps_if (pt_cmpR (op_neDK K rfl hr.units) (pe_call G_refused_prime (hr.mono (by decide)) (by rfl) g_refused_prime kp_refused_prime b_refused_prime .nil pass0 (pa_cons (pv 1) (pa_cons (pv 5) (pa_cons (pv 7) pa_nil)))) (pv 6) (nomark _)) (pss_one (ps_ret pe_bl)) pss_nil))) (pss_one (ps_if (PW.pt (pw_or (pt_cmpR op_ne (pe_callB (call_len_seqK K rfl) (by rfl) T.b_len PySem.boot_len (pa_cons (pe_call G_classes (hr.mono (by decide)) (by rfl) g_classes kp_classes b_classes .nil passL (pa_cons (pv 1) (pa_cons pe_int pa_nil))) pa_nil)) (pe_ix (ix_listK K rfl) (pe_lst (pa_cons pe_int (pa_cons pe_int pa_nil))) (pe_op op_sub (pv 2) pe_int) (fun _ _ => rfl)) (nomark _)) (pw_or1 (pt_cmpR op_notBl (pe_call G_judge_barring (hr.mono (by decide)) (by rfl) g_judge_barring kp_judge_barring b_judge_barring .nil passL (pa_cons (pv 1) (pa_cons pe_int (pa_cons (pe_lst pa_nil) pa_nil)))) pe_bl (nomark _))))) (pss_one (ps_ret pe_bl)) pss_nil))))) (pss_one (ps_ret pe_bl)))))), ?_⟩
  show (_ : TS) _ [some (.ref p_well_here), some v_scene, some v_size, none, none, none, none, none] _
  obtain ⟨good_n, hx, hm⟩ := bind_some hm
  refine q_set (el_ix ((ef_lst (ea_cons ((ef_lst (ea_cons em_int (ea_cons em_int (ea_cons em_int (ea_cons em_int ea_nil)))))).em (ea_cons ((ef_lst (ea_cons em_int (ea_cons em_int ea_nil)))).em ea_nil)))).em.el (em_op vo_sub (em_varf (i := 2) fl_int rfl r_size) em_int)) hx k fun v_good F H e k r_good => ?_
  obtain ⟨good, ez_⟩ : ∃ z, z = good_n := ⟨_, rfl⟩; subst ez_
  show (_ : TS) _ [some (.ref p_well_here), some v_scene, some v_size, some v_good, none, none, none, none] _
  have r_scene := (rO4 (He.ga K "Picture") "dimension" "words" "seen_places" "hidden_places" rInt (rDic rStr) (rLst (rTup K rInt)) (rLst (rTup K rInt))).up e r_scene
  obtain ⟨asked_n, hx, hm⟩ := bind_some hm
  refine q_set ((ef_cat ((ef_lc (K := K) (t := yes) (f := fun (number : Int) => (some (number - 3))) (S := (fun d F1 σ2 => ∃ v_number, σ2 = [some (.ref p_well_here), some v_scene, some v_size, some v_good, none, some v_number, none, none] ∧ rInt.r F1 v_number d)) (ei_rng1 em_int) (gt_name (fun _ => rfl)) (fun d F1 σ2 hs => by obtain ⟨_, rfl, _⟩ := hs; rfl) (fun _ _ _ _ _ => et_yes) (by intro number F1 σ2 e1 hs; obtain ⟨v_number, rfl, r_number⟩ := hs; have r_scene := (rO4 (He.ga K "Picture") "dimension" "words" "seen_places" "hidden_places" rInt (rDic rStr) (rLst (rTup K rInt)) (rLst (rTup K rInt))).up e1 r_scene; have r_good := (rLst rInt).up e1 r_good; exact (em_op vo_sub (em_varf (i := 5) fl_int rfl r_number) em_int)))).em.es ((ef_lst (ea_cons em_int (ea_cons em_int ea_nil)))).em.es)).em hx k fun v_asked F H e k r_asked => ?_
  obtain ⟨asked, ez_⟩ : ∃ z, z = asked_n := ⟨_, rfl⟩; subst ez_
  show (_ : TS) _ [some (.ref p_well_here), some v_scene, some v_size, some v_good, some v_asked, none, none, none] _
  have r_scene := (rO4 (He.ga K "Picture") "dimension" "words" "seen_places" "hidden_places" rInt (rDic rStr) (rLst (rTup K rInt)) (rLst (rTup K rInt))).up e r_scene
  have r_good := (rLst rInt).up e r_good
  obtain ⟨⟨asked_n, well_here_n⟩, hx, hm⟩ := bind_some hm
  refine q_setS (cs' := (fun well_here => [(p_well_here, cLst rInt well_here)])) (SF.sm (cs := (fun well_here => [(p_well_here, cLst rInt well_here)])) (s := well_here) (sf_cat (cs := (fun well_here => [(p_well_here, cLst rInt well_here)])) (s := well_here) (EM.sm (cs := (fun well_here => [(p_well_here, cLst rInt well_here)])) (s := well_here) (em_var (i := 4) rfl r_asked)) fun well_here => (SF.sm (cs := (fun well_here => [(p_well_here, cLst rInt well_here)])) (s := well_here) (sf_lst (cs := (fun well_here => [(p_well_here, cLst rInt well_here)])) (s := well_here) (sa_cons (cs := (fun well_here => [(p_well_here, cLst rInt well_here)])) (s := well_here) (sm_op (cs := (fun well_here => [(p_well_here, cLst rInt well_here)])) (s := well_here) vo_add (sm_Mcall1 (cs := (fun well_here => [(p_well_here, cLst rInt well_here)])) (s := well_here) (cell := fun z => cLst rInt z) (i0 := 0) (j0 := 0) rfl (fun _ => rfl) (fun _ _ => rfl) (EM.sm (cs := (fun well_here => [(p_well_here, cLst rInt well_here)])) (s := well_here) (em_powC (n := 59) rfl (by decide) (by decide)))) fun well_here => (EM.sm (cs := (fun well_here => [(p_well_here, cLst rInt well_here)])) (s := well_here) em_int)) fun well_here => (sa_cons (cs := (fun well_here => [(p_well_here, cLst rInt well_here)])) (s := well_here) (sm_op (cs := (fun well_here => [(p_well_here, cLst rInt well_here)])) (s := well_here) vo_sub (EM.sm (cs := (fun well_here => [(p_well_here, cLst rInt well_here)])) (s := well_here) em_int) fun well_here => (sm_Mcall1 (cs := (fun well_here => [(p_well_here, cLst rInt well_here)])) (s := well_here) (cell := fun z => cLst rInt z) (i0 := 0) (j0 := 0) rfl (fun _ => rfl) (fun _ _ => rfl) (EM.sm (cs := (fun well_here => [(p_well_here, cLst rInt well_here)])) (s := well_here) (em_powC (n := 59) rfl (by decide) (by decide))))) fun well_here => (sa_nil (ra := rInt) (cs := (fun well_here => [(p_well_here, cLst rInt well_here)])) (s := well_here)))))))) hx k fun v_asked F H e k r_asked => ?_
  obtain ⟨asked, ez_⟩ : ∃ z, z = asked_n := ⟨_, rfl⟩; subst ez_
  obtain ⟨well_here, ez_⟩ : ∃ z, z = well_here_n := ⟨_, rfl⟩; subst ez_
  have k : Cov c F [(p_well_here, cLst rInt well_here)] H := k
  show (_ : TS) _ [some (.ref p_well_here), some v_scene, some v_size, some v_good, some v_asked, none, none, none] _
  have r_scene := (rO4 (He.ga K "Picture") "dimension" "words" "seen_places" "hidden_places" rInt (rDic rStr) (rLst (rTup K rInt)) (rLst (rTup K rInt))).up e r_scene
  have r_good := (rLst rInt).up e r_good
  obtain ⟨l_, hl, hm⟩ := bind_some hm
  obtain ⟨out1, hf, hm⟩ := bind_some hm
  have hm1 := hm
  refine sq ?_
  refine a_loop (ei_list (em_var (i := 4) rfl r_asked)) hl k hf fun F H e k => ⟨fun g σ1 F1 H1 => ∃ w_due w_told w_number, σ1 = [some (.ref p_well_here), some v_scene, some v_size, some v_good, some v_asked, w_number, w_due, w_told] ∧ Ex F F1 ∧ Cov c F1 [(p_well_here, cLst rInt well_here)] H1, fun g => [(p_well_here, cLst rInt well_here)], ?_, ?_, ?_, ?_⟩
  · exact ⟨_, _, _, rfl, Evl.Ex.refl _, k⟩
  · rintro g σ1 F1 H1 ⟨_, _, _, rfl, e1, k1⟩
    exact ⟨e1, k1⟩
  · rintro d v ⟨⟩ oo1 σ1 F1 H1 F H ⟨w_due, w_told, w_number, rfl, eL11, _⟩ e1 k rd hm hret1 hbrk1
    have eL11 := eL11.trans e1
    have r_scene := (rO4 (He.ga K "Picture") "dimension" "words" "seen_places" "hidden_places" rInt (rDic rStr) (rLst (rTup K rInt)) (rLst (rTup K rInt))).up (e.trans eL11) r_scene
    have r_good := (rLst rInt).up (e.trans eL11) r_good
    have r_asked := (rLst rInt).up (e.trans eL11) r_asked
    obtain ⟨number, ez_⟩ : ∃ z, z = d := ⟨_, rfl⟩; subst ez_
    obtain ⟨v_number, ez_⟩ : ∃ z, z = v := ⟨_, rfl⟩; subst ez_
    have r_number := rd
    refine gn (σ1 := [some (.ref p_well_here), some v_scene, some v_size, some v_good, some v_asked, some v_number, w_due, w_told]) rfl ?_
    obtain ⟨due_n, hx, hm⟩ := bind_some hm
    refine q_set (em_if (et_test (em_inD dq_int (Nat.le_of_ble_eq_true rfl) (em_varf (i := 5) fl_int rfl r_number) ((em_var (i := 3) rfl r_good)).el)) (em_datN (K := K)) (em_eq (m' := (some (PyData.list [(PyData.int number), (PyData.bool true), (PyData.bool false)]))) (em_mapR (ra := (rLst (rDat K))) (g := PyData.list) (dat_lst (K := K)) ((ef_lst (ea_cons (em_eq (m' := (some (PyData.int number))) (em_mapR (ra := rInt) (g := PyData.int) (to_dat (K := K) dq_int) (em_varf (i := 5) fl_int rfl r_number)) rfl) (ea_cons (em_eq (m' := (some (PyData.bool true))) (em_mapR (ra := rBool) (g := PyData.bool) (to_dat (K := K) dq_bool) em_bl) rfl) (ea_cons (em_eq (m' := (some (PyData.bool false))) (em_mapR (ra := rBool) (g := PyData.bool) (to_dat (K := K) dq_bool) em_bl) rfl) ea_nil))))).em) rfl)) hx k fun v_due F H e k r_due => ?_
    obtain ⟨due, ez_⟩ : ∃ z, z = due_n := ⟨_, rfl⟩; subst ez_
    show (_ : TS) _ [some (.ref p_well_here), some v_scene, some v_size, some v_good, some v_asked, some v_number, some v_due, w_told] _
    have r_scene := (rO4 (He.ga K "Picture") "dimension" "words" "seen_places" "hidden_places" rInt (rDic rStr) (rLst (rTup K rInt)) (rLst (rTup K rInt))).up e r_scene
    have r_good := (rLst rInt).up e r_good
    have r_asked := (rLst rInt).up e r_asked
    have eL11 := eL11.trans e
    obtain ⟨l_, hl, hm⟩ := bind_some hm
    obtain ⟨out2, hf, hm⟩ := bind_some hm
    have hm2 := hm
    refine sq ?_
    refine a_loop (ei_list ((ef_lst (ea_cons (em_non (ra := (rLst (rTup K rInt)))) (ea_cons (em_opt nn_lst ((ef_lst (ra := (rTup K rInt)) ea_nil)).em) (ea_cons (em_opt nn_lst (em_prop objP_O4 (em_var (i := 1) rfl r_scene))) ea_nil))))).em) hl k hf fun F H e k => ⟨fun g σ1 F1 H1 => ∃ w_told, σ1 = [some (.ref p_well_here), some v_scene, some v_size, some v_good, some v_asked, some v_number, some v_due, w_told] ∧ Ex F F1 ∧ Cov c F1 [(p_well_here, cLst rInt well_here)] H1, fun g => [(p_well_here, cLst rInt well_here)], ?_, ?_, ?_, ?_⟩
    · exact ⟨_, rfl, Evl.Ex.refl _, k⟩
    · rintro g σ1 F1 H1 ⟨_, rfl, e1, k1⟩
      exact ⟨e1, k1⟩
    · rintro d v ⟨⟩ oo2 σ1 F1 H1 F H ⟨w_told, rfl, eL12, _⟩ e1 k rd hm hret2 hbrk2
      have eL12 := eL12.trans e1
      have r_scene := (rO4 (He.ga K "Picture") "dimension" "words" "seen_places" "hidden_places" rInt (rDic rStr) (rLst (rTup K rInt)) (rLst (rTup K rInt))).up (e.trans eL12) r_scene
      have r_good := (rLst rInt).up (e.trans eL12) r_good
      have r_asked := (rLst rInt).up (e.trans eL12) r_asked
      have r_due := (rDat K).up (e.trans eL12) r_due
      have eL11 := eL11.trans (e.trans eL12)
      obtain ⟨told, ez_⟩ : ∃ z, z = d := ⟨_, rfl⟩; subst ez_
      obtain ⟨v_told, ez_⟩ : ∃ z, z = v := ⟨_, rfl⟩; subst ez_
      have r_told := rd
      refine gn (σ1 := [some (.ref p_well_here), some v_scene, some v_size, some v_good, some v_asked, some v_number, some v_due, some v_told]) rfl ?_
      obtain ⟨b, hb, hm⟩ := bind_some hm
      refine a_if (et_test (em_op vo_neU (em_Pcall3t (em_var (i := 1) rfl r_scene) (em_varf (i := 5) fl_int rfl r_number) (em_var (i := 7) rfl r_told)) (em_var (i := 6) rfl r_due))) hb k (fun eb F H e k => ?_) (fun eb F H e k => ?_)
      ·
        subst eb
        have hm := hT hm
        have r_scene := (rO4 (He.ga K "Picture") "dimension" "words" "seen_places" "hidden_places" rInt (rDic rStr) (rLst (rTup K rInt)) (rLst (rTup K rInt))).up e r_scene
        have r_good := (rLst rInt).up e r_good
        have r_asked := (rLst rInt).up e r_asked
        have r_due := (rDat K).up e r_due
        have r_told := (rOpt (rLst (rTup K rInt))).up e r_told
        have eL11 := eL11.trans e
        have eL12 := eL12.trans e
        obtain ⟨rv, hv, hm⟩ := bind_some hm
        have hm := Option.some.inj hm
        subst hm
        have ho2 := hret2 _ rfl
        rw [ho2] at hm2
        have hq1 := (Option.some.inj hm2).symm
        have ho1 := hret1 _ hq1
        rw [ho1] at hm1
        have hm := Option.some.inj hm1
        cases hm
        exact a_ret em_bl hv k fun v F H e k r => hQ v F H (k.keepN 1) r
      ·
        subst eb
        have hm := hF hm
        have r_scene := (rO4 (He.ga K "Picture") "dimension" "words" "seen_places" "hidden_places" rInt (rDic rStr) (rLst (rTup K rInt)) (rLst (rTup K rInt))).up e r_scene
        have r_good := (rLst rInt).up e r_good
        have r_asked := (rLst rInt).up e r_asked
        have r_due := (rDat K).up e r_due
        have r_told := (rOpt (rLst (rTup K rInt))).up e r_told
        have eL11 := eL11.trans e
        have eL12 := eL12.trans e
        show Ends.nx _ _ _
        have hm := Option.some.inj hm
        subst hm
        exact ⟨F, _, rfl, _, rfl, eL12, k⟩
    rintro ⟨⟩ σ1 F H eo ⟨w_told, rfl, e1, k⟩
    subst eo
    have r_scene := (rO4 (He.ga K "Picture") "dimension" "words" "seen_places" "hidden_places" rInt (rDic rStr) (rLst (rTup K rInt)) (rLst (rTup K rInt))).up (e.trans e1) r_scene
    have r_good := (rLst rInt).up (e.trans e1) r_good
    have r_asked := (rLst rInt).up (e.trans e1) r_asked
    have r_due := (rDat K).up (e.trans e1) r_due
    have eL11 := eL11.trans (e.trans e1)
    refine nxh ?_
    obtain ⟨b, hb, hm⟩ := bind_some hm
    refine a_if (et_or (et_test (em_op vo_neI (el_len ((em_eq (m' := ((m_classes scene 2).bind okG)) (em_Xcall (eag_cons (em_var (i := 1) rfl r_scene) (eag_cons em_int eag_nil))) rfl)).el) (el_ix ((ef_lst (ea_cons em_int (ea_cons em_int ea_nil)))).em.el (em_op vo_sub (em_varf (i := 2) fl_int rfl r_size) em_int)))) (et_test (em_op vo_notBl (em_eq (m' := ((m_judge_barring scene 3 []).bind okG)) (em_Xcall (eag_cons (em_var (i := 1) rfl r_scene) (eag_cons em_int (eag_cons ((ef_lst (ra := (rTup K rInt)) ea_nil)).em eag_nil)))) rfl) em_bl))) hb k (fun eb F H e k => ?_) (fun eb F H e k => ?_)
    ·
      subst eb
      have hm := hT hm
      have r_scene := (rO4 (He.ga K "Picture") "dimension" "words" "seen_places" "hidden_places" rInt (rDic rStr) (rLst (rTup K rInt)) (rLst (rTup K rInt))).up e r_scene
      have r_good := (rLst rInt).up e r_good
      have r_asked := (rLst rInt).up e r_asked
      have r_due := (rDat K).up e r_due
      have eL11 := eL11.trans e
      obtain ⟨rv, hv, hm⟩ := bind_some hm
      have hm := Option.some.inj hm
      subst hm
      have ho1 := hret1 _ rfl
      rw [ho1] at hm1
      have hm := Option.some.inj hm1
      cases hm
      exact a_ret em_bl hv k fun v F H e k r => hQ v F H (k.keepN 1) r
    ·
      subst eb
      have hm := hF hm
      have r_scene := (rO4 (He.ga K "Picture") "dimension" "words" "seen_places" "hidden_places" rInt (rDic rStr) (rLst (rTup K rInt)) (rLst (rTup K rInt))).up e r_scene
      have r_good := (rLst rInt).up e r_good
      have r_asked := (rLst rInt).up e r_asked
      have r_due := (rDat K).up e r_due
      have eL11 := eL11.trans e
      show Ends.nx _ _ _
      have hm := Option.some.inj hm
      subst hm
      exact ⟨F, _, rfl, _, _, _, rfl, eL11, k⟩
  rintro ⟨⟩ σ1 F H eo ⟨w_due, w_told, w_number, rfl, e1, k⟩
  subst eo
  have r_scene := (rO4 (He.ga K "Picture") "dimension" "words" "seen_places" "hidden_places" rInt (rDic rStr) (rLst (rTup K rInt)) (rLst (rTup K rInt))).up (e.trans e1) r_scene
  have r_good := (rLst rInt).up (e.trans e1) r_good
  have r_asked := (rLst rInt).up (e.trans e1) r_asked
  refine nxh ?_
  obtain ⟨rv, hv, hm⟩ := bind_some hm
  have hm := Option.some.inj hm
  cases hm
  exact a_ret em_bl hv k fun v F H e k r => hQ v F H (k.keepN 1) r
abbrev s_case : Stmt := topS 33
abbrev N_case : List PySem.Str := ["_law_well_here", "_law_size", "_law_spots", "_law_turn", "_law_spot_here", "_law_scene", "_law_first", "_law_many", "_law_offset", "_law_due"]
theorem sc_case : FnScope N_case ["_law_well_here"] (defScope s_case) := ⟨rfl, rfl, rfl, by decide +kernel, rfl, by decide +kernel, by decide +kernel⟩
def sp_case (K : PySem.W.Frag) : Sp := (MPsp0 (fun z => cLst rInt z)  rBool m_case)
theorem ok_case {P : Program} {w : World} {K : PySem.W.Frag} {mg : PySem.Str → Option Value} {base : Heap} (T : Txt mg) (L : ClsF K mg) (E_ : ErrF K mg erL) (C_shows : CalX P w K mg base 5 "shows" ["picture", "shift"] (sp_shows K) (fun fd => KBn K fd ["picture", "shift"] 0 ["shift", "picture"] (fun vs zs => [zs.getD 1 .none, zs.getD 0 .none]) (fun vs zs => [zs.getD 1 .non, zs.getD 0 .non]))) (C_Picture___init__ : CalI P w K mg base 1 (He.ga K "Picture") ["self", "size", "seen", "hidden"] (sp_Picture___init__ K) (fun _ => True)) (C_draw : Cal P w K mg base 1 "_law_draw" ["_law_well_here", "_law_many"] (sp_draw K) (fun _ => True)) (C_spot : Cal P w K mg base 2 "_law_spot" ["_law_well_here", "_law_size", "_law_reach"] (sp_spot K) (fun _ => True)) (C_refused_shift : Cal P w K mg base 6 "_law_refused_shift" ["_law_scene", "_law_offset"] (sp_refused_shift K) (fun _ => True)) (C_primes_right : Cal P w K mg base 6 "_law_primes_right" ["_law_well_here", "_law_scene", "_law_size"] (sp_primes_right K) (fun _ => True)) {f : Addr} {fd : FuncData} (Fn : FnP K "_law_case" s_case f fd) : FnOk P w K mg base CX0 7 f fd ["_law_well_here"] (sp_case K) := by
  obtain ⟨f_shows, fd_shows, G_shows, g_shows, kp_shows, b_shows, kb_shows_0⟩ := C_shows.ex
  obtain ⟨f_Picture___init__, fd_Picture___init__, G_Picture___init__, M_Picture___init__, b_Picture___init__, _⟩ := C_Picture___init__.ex
  obtain ⟨f_draw, fd_draw, G_draw, g_draw, kp_draw, b_draw, _⟩ := C_draw.ex
  obtain ⟨f_spot, fd_spot, G_spot, g_spot, kp_spot, b_spot, _⟩ := C_spot.ex
  obtain ⟨f_refused_shift, fd_refused_shift, G_refused_shift, g_refused_shift, kp_refused_shift, b_refused_shift, _⟩ := C_refused_shift.ex
  obtain ⟨f_primes_right, fd_primes_right, G_primes_right, g_primes_right, kp_primes_right, b_primes_right, _⟩ := C_primes_right.ex
  refine Fn.ok sc_case (fun vs H Q E h => MPsp0_len h) (fun cdv A outer s H vs Q E hr h => ?_)
  obtain ⟨F, p_well_here, well_here, res, s_out, rfl, k, hm, hQ⟩ := h
  generalize hc : Act.mk H F [p_well_here] = c at k hQ
  unfold m_case at hm
  refine ⟨_, PSs.nox (pss_cons (ps_set (i := 1) sc_case.nd rfl (Or.inl rfl) (pe_op op_add pe_int (pe_call G_draw (hr.mono (by decide)) (by rfl) g_draw kp_draw b_draw .nil pass0 (pa_cons (pv 0) (pa_cons pe_int pa_nil))))) (pss_cons (ps_set (i := 2) sc_case.nd rfl (Or.inl rfl) (pe_lst pa_nil)) (pss_cons (ps_for PassesOwn.never rfl (pi_range1 (by rfl) T.b_range (pa_cons (pe_call G_draw (hr.mono (by decide)) (by rfl) g_draw kp_draw b_draw .nil pass0 (pa_cons (pv 0) (pa_cons pe_int pa_nil))) pa_nil)) (pg_name (i := 3) sc_case.nd rfl (Or.inl rfl)) (pss_cons (ps_set (i := 4) sc_case.nd rfl (Or.inl rfl) (pe_call G_spot (hr.mono (by decide)) (by rfl) g_spot kp_spot b_spot .nil pass0 (pa_cons (pv 0) (pa_cons (pv 1) (pa_cons pe_int pa_nil))))) (pss_one (ps_if (pt_cmpR (op_notInDK K rfl (un65 hr)) (pv 4) (pv 2) rfl) (pss_one (ps_expr (pe_bm PySem.F.plainAttrs_list PySem.F.slot_list_append PySem.F.type_list_append mt_append (pv 2) (pa_cons (pv 4) pa_nil)))) pss_nil)))) (pss_cons (ps_set (i := 5) sc_case.nd rfl (Or.inl rfl) (pe_make M_Picture___init__ G_Picture___init__ (hr.mono (by decide)) (by rfl) L.g_Picture b_Picture___init__ .nil pass0 (pa_cons (pv 1) (pa_cons (pe_slice (sl_listK K rfl) (pv 2) po_none (po_some pe_int)) (pa_cons (pe_slice (sl_listK K rfl) (pv 2) (po_some pe_int) po_none) pa_nil))))) (pss_cons (ps_set (i := 6) sc_case.nd rfl (Or.inl rfl) (pe_call G_shows (hr.mono (by decide)) (by rfl) g_shows kp_shows b_shows .nil passL (pa_cons (pv 5) (pa_cons (pe_call G_spot (hr.mono (by decide)) (by rfl) g_spot kp_spot b_spot .nil pass0 (pa_cons (pv 0) (pa_cons (pv 1) (pa_cons pe_int pa_nil)))) pa_nil)))) (pss_cons (ps_for PassesOwn.never rfl (pi_range1 (by rfl) T.b_range (pa_cons pe_int pa_nil)) (pg_name (i := 7) sc_case.nd rfl (Or.inl rfl)) (pss_cons (ps_set (i := 8) sc_case.nd rfl (Or.inl rfl) (pe_call G_spot (hr.mono (by decide)) (by rfl) g_spot kp_spot b_spot .nil pass0 (pa_cons (pv 0) (pa_cons (pv 7) (pa_cons (pe_ix (ix_listK K rfl) (pe_lst (pa_cons pe_int (pa_cons pe_int (pa_cons (pe_op op_pow pe_int pe_int) pa_nil)))) (pe_call G_draw (hr.mono (by decide)) (by rfl) g_draw kp_draw b_draw .nil pass0 (pa_cons (pv 0) (pa_cons pe_int pa_nil))) (fun _ _ => rfl)) pa_nil))))) (pss_cons (ps_set (i := 9) sc_case.nd rfl (Or.inl rfl) (pe_ifExp (pt_cmpR op_eq (pv 7) (pv 1) (nomark _)) pe_non (pe_lst (pa_cons (pv 8) (pa_cons pe_bl (pa_cons pe_bl pa_nil)))))) (pss_cons (ps_if (pt_cmpR (op_neDK K rfl hr.units) (pe_call G_refused_shift (hr.mono (by decide)) (by rfl) g_refused_shift kp_refused_shift b_refused_shift .nil pass0 (pa_cons (pv 5) (pa_cons (pv 8) pa_nil))) (pv 9) (nomark _)) (pss_one (ps_ret pe_bl)) pss_nil) (pss_one (ps_if (pt_not (pt_val (pe_callB (call_isiK2 K rfl) (by rfl) T.b_isinstance (by decide +kernel) (pa_cons (pe_callN0 G_shows (hr.mono (by decide)) (by rfl) g_shows kp_shows kb_shows_0 passL (pk_cons (pe_call G_spot (hr.mono (by decide)) (by rfl) g_spot kp_spot b_spot .nil pass0 (pa_cons (pv 0) (pa_cons (pv 1) (pa_cons (pe_op op_pow pe_int pe_int) pa_nil)))) (pk_cons (pv 5) pk_nil))) (pa_cons (pe_bltn (v := .ty "bool") (by rfl) T.b_bool (by decide +kernel) rfl) pa_nil))))) (pss_one (ps_ret pe_bl)) pss_nil)))))) (pss_one (ps_ret (pe_and (pe_callB (call_isiK2 K rfl) (by rfl) T.b_isinstance (by decide +kernel) (pa_cons (pv 6) (pa_cons (pe_bltn (v := .ty "bool") (by rfl) T.b_bool (by decide +kernel) rfl) pa_nil))) (pe_one (pe_call G_primes_right (hr.mono (by decide)) (by rfl) g_primes_right kp_primes_right b_primes_right .nil pass0 (pa_cons (pv 0) (pa_cons (pv 5) (pa_cons (pv 1) pa_nil)))))))))))))), ?_⟩
  show (_ : TS) _ [some (.ref p_well_here), none, none, none, none, none, none, none, none, none] _
  obtain ⟨⟨size_n, well_here_n⟩, hx, hm⟩ := bind_some hm
  refine q_setS (cs' := (fun well_here => [(p_well_here, cLst rInt well_here)])) (sm_op (cs := (fun well_here => [(p_well_here, cLst rInt well_here)])) (s := well_here) vo_add (EM.sm (cs := (fun well_here => [(p_well_here, cLst rInt well_here)])) (s := well_here) em_int) fun well_here => (sm_Mcall1 (cs := (fun well_here => [(p_well_here, cLst rInt well_here)])) (s := well_here) (cell := fun z => cLst rInt z) (i0 := 0) (j0 := 0) rfl (fun _ => rfl) (fun _ _ => rfl) (EM.sm (cs := (fun well_here => [(p_well_here, cLst rInt well_here)])) (s := well_here) em_int))) hx k fun v_size F H e k r_size => ?_
  obtain ⟨size, ez_⟩ : ∃ z, z = size_n := ⟨_, rfl⟩; subst ez_
  obtain ⟨well_here, ez_⟩ : ∃ z, z = well_here_n := ⟨_, rfl⟩; subst ez_
  have k : Cov c F [(p_well_here, cLst rInt well_here)] H := k
  show (_ : TS) _ [some (.ref p_well_here), some v_size, none, none, none, none, none, none, none, none] _
  obtain ⟨spots_n, hx, hm⟩ := bind_some hm
  refine q_setF (ef_lst (ra := (rTup K rInt)) ea_nil) hx k fun p_spots F H e k n_spots => ?_
  obtain ⟨spots, ez_⟩ : ∃ z, z = spots_n := ⟨_, rfl⟩; subst ez_
  show (_ : TS) _ [some (.ref p_well_here), some v_size, some (.ref p_spots), none, none, none, none, none, none, none] _
  obtain ⟨⟨l_, well_here_n⟩, hl, hm⟩ := bind_some hm
  obtain ⟨g1_, hf, hm⟩ := bind_some hm
  refine sq ?_
  refine a_forS (cs' := (fun well_here => [(p_well_here, cLst rInt well_here), (p_spots, cLst (rTup K rInt) spots)])) (si_rng1 (cs := (fun well_here => [(p_well_here, cLst rInt well_here), (p_spots, cLst (rTup K rInt) spots)])) (s := well_here) (sm_Mcall1 (cs := (fun well_here => [(p_well_here, cLst rInt well_here), (p_spots, cLst (rTup K rInt) spots)])) (s := well_here) (cell := fun z => cLst rInt z) (i0 := 0) (j0 := 0) rfl (fun _ => rfl) (fun _ _ => rfl) (EM.sm (cs := (fun well_here => [(p_well_here, cLst rInt well_here), (p_spots, cLst (rTup K rInt) spots)])) (s := well_here) em_int))) hl k hf fun F H e k => ⟨fun g σ1 F1 H1 => ∃ w_spot_here w_turn, σ1 = [some (.ref p_well_here), some v_size, some (.ref p_spots), w_turn, w_spot_here, none, none, none, none, none] ∧ Ex F F1 ∧ Cov c F1 [(p_well_here, cLst rInt g.1), (p_spots, cLst (rTup K rInt) g.2)] H1, fun g => [(p_well_here, cLst rInt g.1), (p_spots, cLst (rTup K rInt) g.2)], ?_, ?_, ?_, ?_⟩
  · exact ⟨_, _, rfl, Evl.Ex.refl _, k⟩
  · rintro g σ1 F1 H1 ⟨_, _, rfl, e1, k1⟩
    exact ⟨e1, k1⟩
  · rintro d v ⟨well_here, spots⟩ g2 σ1 F1 H1 F H ⟨w_spot_here, w_turn, rfl, eL13, _⟩ e1 k rd hm
    have eL13 := eL13.trans e1
    obtain ⟨turn, ez_⟩ : ∃ z, z = d := ⟨_, rfl⟩; subst ez_
    obtain ⟨v_turn, ez_⟩ : ∃ z, z = v := ⟨_, rfl⟩; subst ez_
    have r_turn := rd
    refine gn (σ1 := [some (.ref p_well_here), some v_size, some (.ref p_spots), some v_turn, w_spot_here, none, none, none, none, none]) rfl ?_
    obtain ⟨⟨spot_here_n, well_here_n⟩, hx, hm⟩ := bind_some hm
    refine q_setS (cs' := (fun well_here => [(p_well_here, cLst rInt well_here), (p_spots, cLst (rTup K rInt) spots)])) (sm_Mcall2 (cs := (fun well_here => [(p_well_here, cLst rInt well_here), (p_spots, cLst (rTup K rInt) spots)])) (s := well_here) (cell := fun z => cLst rInt z) (i0 := 0) (j0 := 0) rfl (fun _ => rfl) (fun _ _ => rfl) (EM.sm (cs := (fun well_here => [(p_well_here, cLst rInt well_here), (p_spots, cLst (rTup K rInt) spots)])) (s := well_here) (em_varf (i := 1) fl_int rfl r_size)) (fun well_here => (EM.sm (cs := (fun well_here => [(p_well_here, cLst rInt well_here), (p_spots, cLst (rTup K rInt) spots)])) (s := well_here) em_int))) hx k fun v_spot_here F H e k r_spot_here => ?_
    obtain ⟨spot_here, ez_⟩ : ∃ z, z = spot_here_n := ⟨_, rfl⟩; subst ez_
    obtain ⟨well_here, ez_⟩ : ∃ z, z = well_here_n := ⟨_, rfl⟩; subst ez_
    have k : Cov c F [(p_well_here, cLst rInt well_here), (p_spots, cLst (rTup K rInt) spots)] H := k
    show (_ : TS) _ [some (.ref p_well_here), some v_size, some (.ref p_spots), some v_turn, some v_spot_here, none, none, none, none, none] _
    have eL13 := eL13.trans e
    obtain ⟨b, hb, hm⟩ := bind_some hm
    refine a_if (et_test (em_notInD (dq_tup dq_int) (Nat.le_of_ble_eq_true rfl) (em_var (i := 4) rfl r_spot_here) (el_cell (i := 2) (j := 1) rfl rfl))) hb k (fun eb F H e k => ?_) (fun eb F H e k => ?_)
    ·
      subst eb
      have hm := hT hm
      have r_spot_here := (rTup K rInt).up e r_spot_here
      have eL13 := eL13.trans e
      obtain ⟨val, hx, hm⟩ := bind_some hm
      obtain ⟨spots_n, hs, hm⟩ := bind_some hm
      obtain ⟨hs, hz⟩ := appG_some hs
      refine a_app (i := 2) (j := 1) rfl rfl (em_var (i := 4) rfl r_spot_here) hx hz k fun F H e k => ?_
      rw [← hs] at k
      obtain ⟨spots, ez_⟩ : ∃ z, z = spots_n := ⟨_, rfl⟩; subst ez_
      have r_spot_here := (rTup K rInt).up e r_spot_here
      have eL13 := eL13.trans e
      have k : Cov c F [(p_well_here, cLst rInt well_here), (p_spots, cLst (rTup K rInt) spots)] H := k
      have hm := Option.some.inj hm
      subst hm
      exact ⟨F, _, _, rfl, eL13, k⟩
    ·
      subst eb
      have hm := hF hm
      have r_spot_here := (rTup K rInt).up e r_spot_here
      have eL13 := eL13.trans e
      show Ends.nx _ _ _
      have hm := Option.some.inj hm
      subst hm
      exact ⟨F, _, _, rfl, eL13, k⟩
  obtain ⟨well_here, spots⟩ := g1_
  rintro σ1 F H ⟨w_spot_here, w_turn, rfl, e1, k⟩
  refine nxh ?_
  obtain ⟨F, e, k, r_spots⟩ := k.frzL 1 rfl n_spots
  have k : Cov c F [(p_well_here, cLst rInt well_here)] H := k
  obtain ⟨scene_n, hx, hm⟩ := bind_some hm
  refine q_set (em_make4_3 (em_varf (i := 1) fl_int rfl r_size) ((ef_slice ((em_var (i := 2) rfl r_spots)).el eo_none (eo_some em_int))).em ((ef_slice ((em_var (i := 2) rfl r_spots)).el (eo_some em_int) eo_none)).em) hx k fun v_scene F H e k r_scene => ?_
  obtain ⟨scene, ez_⟩ : ∃ z, z = scene_n := ⟨_, rfl⟩; subst ez_
  show (_ : TS) _ [some (.ref p_well_here), some v_size, some (.ref p_spots), w_turn, w_spot_here, some v_scene, none, none, none, none] _
  have r_spots := (rLst (rTup K rInt)).up e r_spots
  obtain ⟨⟨first_n, well_here_n⟩, hx, hm⟩ := bind_some hm
  refine q_setS (cs' := (fun well_here => [(p_well_here, cLst rInt well_here)])) (sm_Xcall (cs := (fun well_here => [(p_well_here, cLst rInt well_here)])) (s := well_here) (sag_cons (cs := (fun well_here => [(p_well_here, cLst rInt well_here)])) (s := well_here) (EM.sm (cs := (fun well_here => [(p_well_here, cLst rInt well_here)])) (s := well_here) (em_var (i := 5) rfl r_scene)) fun well_here => (sag_cons (cs := (fun well_here => [(p_well_here, cLst rInt well_here)])) (s := well_here) (sm_Mcall2 (cs := (fun well_here => [(p_well_here, cLst rInt well_here)])) (s := well_here) (cell := fun z => cLst rInt z) (i0 := 0) (j0 := 0) rfl (fun _ => rfl) (fun _ _ => rfl) (EM.sm (cs := (fun well_here => [(p_well_here, cLst rInt well_here)])) (s := well_here) (em_varf (i := 1) fl_int rfl r_size)) (fun well_here => (EM.sm (cs := (fun well_here => [(p_well_here, cLst rInt well_here)])) (s := well_here) em_int))) fun well_here => (sag_nil (cs := (fun well_here => [(p_well_here, cLst rInt well_here)])) (s := well_here))))) hx k fun v_first F H e k r_first => ?_
  obtain ⟨first, ez_⟩ : ∃ z, z = first_n := ⟨_, rfl⟩; subst ez_
  obtain ⟨well_here, ez_⟩ : ∃ z, z = well_here_n := ⟨_, rfl⟩; subst ez_
  have k : Cov c F [(p_well_here, cLst rInt well_here)] H := k
  show (_ : TS) _ [some (.ref p_well_here), some v_size, some (.ref p_spots), w_turn, w_spot_here, some v_scene, some v_first, none, none, none] _
  have r_spots := (rLst (rTup K rInt)).up e r_spots
  have r_scene := (rO4 (He.ga K "Picture") "dimension" "words" "seen_places" "hidden_places" rInt (rDic rStr) (rLst (rTup K rInt)) (rLst (rTup K rInt))).up e r_scene
  obtain ⟨l_, hl, hm⟩ := bind_some hm
  obtain ⟨out1, hf, hm⟩ := bind_some hm
  have hm1 := hm
  refine sq ?_
  refine a_loop (ei_rng1 em_int) hl k hf fun F H e k => ⟨fun g σ1 F1 H1 => ∃ w_offset w_due w_many, σ1 = [some (.ref p_well_here), some v_size, some (.ref p_spots), w_turn, w_spot_here, some v_scene, some v_first, w_many, w_offset, w_due] ∧ Ex F F1 ∧ Cov c F1 [(p_well_here, cLst rInt g)] H1, fun g => [(p_well_here, cLst rInt g)], ?_, ?_, ?_, ?_⟩
  · exact ⟨_, _, _, rfl, Evl.Ex.refl _, k⟩
  · rintro g σ1 F1 H1 ⟨_, _, _, rfl, e1, k1⟩
    exact ⟨e1, k1⟩
  · rintro d v well_here oo1 σ1 F1 H1 F H ⟨w_offset, w_due, w_many, rfl, eL14, _⟩ e1 k rd hm hret1 hbrk1
    have eL14 := eL14.trans e1
    have r_spots := (rLst (rTup K rInt)).up (e.trans eL14) r_spots
    have r_scene := (rO4 (He.ga K "Picture") "dimension" "words" "seen_places" "hidden_places" rInt (rDic rStr) (rLst (rTup K rInt)) (rLst (rTup K rInt))).up (e.trans eL14) r_scene
    obtain ⟨many, ez_⟩ : ∃ z, z = d := ⟨_, rfl⟩; subst ez_
    obtain ⟨v_many, ez_⟩ : ∃ z, z = v := ⟨_, rfl⟩; subst ez_
    have r_many := rd
    refine gn (σ1 := [some (.ref p_well_here), some v_size, some (.ref p_spots), w_turn, w_spot_here, some v_scene, some v_first, some v_many, w_offset, w_due]) rfl ?_
    obtain ⟨⟨offset_n, well_here_n⟩, hx, hm⟩ := bind_some hm
    refine q_setS (cs' := (fun well_here => [(p_well_here, cLst rInt well_here)])) (sm_Mcall2 (cs := (fun well_here => [(p_well_here, cLst rInt well_here)])) (s := well_here) (cell := fun z => cLst rInt z) (i0 := 0) (j0 := 0) rfl (fun _ => rfl) (fun _ _ => rfl) (EM.sm (cs := (fun well_here => [(p_well_here, cLst rInt well_here)])) (s := well_here) (em_varf (i := 7) fl_int rfl r_many)) (fun well_here => (sm_ix (cs := (fun well_here => [(p_well_here, cLst rInt well_here)])) (s := well_here) (EM.sm (cs := (fun well_here => [(p_well_here, cLst rInt well_here)])) (s := well_here) ((ef_lst (ea_cons em_int (ea_cons em_int (ea_cons (em_powC (n := 59) rfl (by decide) (by decide)) ea_nil))))).em) fun well_here => (sm_Mcall1 (cs := (fun well_here => [(p_well_here, cLst rInt well_here)])) (s := well_here) (cell := fun z => cLst rInt z) (i0 := 0) (j0 := 0) rfl (fun _ => rfl) (fun _ _ => rfl) (EM.sm (cs := (fun well_here => [(p_well_here, cLst rInt well_here)])) (s := well_here) em_int))))) hx k fun v_offset F H e k r_offset => ?_
    obtain ⟨offset, ez_⟩ : ∃ z, z = offset_n := ⟨_, rfl⟩; subst ez_
    obtain ⟨well_here, ez_⟩ : ∃ z, z = well_here_n := ⟨_, rfl⟩; subst ez_
    have k : Cov c F [(p_well_here, cLst rInt well_here)] H := k
    show (_ : TS) _ [some (.ref p_well_here), some v_size, some (.ref p_spots), w_turn, w_spot_here, some v_scene, some v_first, some v_many, some v_offset, w_due] _
    have r_spots := (rLst (rTup K rInt)).up e r_spots
    have r_scene := (rO4 (He.ga K "Picture") "dimension" "words" "seen_places" "hidden_places" rInt (rDic rStr) (rLst (rTup K rInt)) (rLst (rTup K rInt))).up e r_scene
    have eL14 := eL14.trans e
    obtain ⟨due_n, hx, hm⟩ := bind_some hm
    refine q_set (em_if (et_test (em_op vo_eqI (em_varf (i := 7) fl_int rfl r_many) (em_varf (i := 1) fl_int rfl r_size))) (em_datN (K := K)) (em_eq (m' := (some (PyData.list [((fun (l : (List Int)) => PyData.tuple (l.map PyData.int)) offset), (PyData.bool true), (PyData.bool false)]))) (em_mapR (ra := (rLst (rDat K))) (g := PyData.list) (dat_lst (K := K)) ((ef_lst (ea_cons (em_eq (m' := (some ((fun (l : (List Int)) => PyData.tuple (l.map PyData.int)) offset))) (em_mapR (ra := (rTup K rInt)) (g := (fun (l : (List Int)) => PyData.tuple (l.map PyData.int))) (to_dat (K := K) (dq_tup dq_int)) (em_var (i := 8) rfl r_offset)) rfl) (ea_cons (em_eq (m' := (some (PyData.bool true))) (em_mapR (ra := rBool) (g := PyData.bool) (to_dat (K := K) dq_bool) em_bl) rfl) (ea_cons (em_eq (m' := (some (PyData.bool false))) (em_mapR (ra := rBool) (g := PyData.bool) (to_dat (K := K) dq_bool) em_bl) rfl) ea_nil))))).em) rfl)) hx k fun v_due F H e k r_due => ?_
    obtain ⟨due, ez_⟩ : ∃ z, z = due_n := ⟨_, rfl⟩; subst ez_
    show (_ : TS) _ [some (.ref p_well_here), some v_size, some (.ref p_spots), w_turn, w_spot_here, some v_scene, some v_first, some v_many, some v_offset, some v_due] _
    have r_spots := (rLst (rTup K rInt)).up e r_spots
    have r_scene := (rO4 (He.ga K "Picture") "dimension" "words" "seen_places" "hidden_places" rInt (rDic rStr) (rLst (rTup K rInt)) (rLst (rTup K rInt))).up e r_scene
    have r_offset := (rTup K rInt).up e r_offset
    have eL14 := eL14.trans e
    obtain ⟨b, hb, hm⟩ := bind_some hm
    refine q_ife (et_test (em_op vo_neU (em_Pcall2t (em_var (i := 5) rfl r_scene) (em_var (i := 8) rfl r_offset)) (em_var (i := 9) rfl r_due))) hb k (fun eb F H e k => ?_) (fun eb F H e k => ?_)
    ·
      subst eb
      have hm := hT hm
      have r_spots := (rLst (rTup K rInt)).up e r_spots
      have r_scene := (rO4 (He.ga K "Picture") "dimension" "words" "seen_places" "hidden_places" rInt (rDic rStr) (rLst (rTup K rInt)) (rLst (rTup K rInt))).up e r_scene
      have r_offset := (rTup K rInt).up e r_offset
      have r_due := (rDat K).up e r_due
      have eL14 := eL14.trans e
      obtain ⟨rv, hv, hm⟩ := bind_some hm
      have hm := Option.some.inj hm
      subst hm
      have ho1 := hret1 _ rfl
      rw [ho1] at hm1
      have hm := Option.some.inj hm1
      cases hm
      exact a_ret em_bl hv k fun v F H e k r => hQ v F H (k.keepN 1) r
    ·
      subst eb
      have hm := hF hm
      have r_spots := (rLst (rTup K rInt)).up e r_spots
      have r_scene := (rO4 (He.ga K "Picture") "dimension" "words" "seen_places" "hidden_places" rInt (rDic rStr) (rLst (rTup K rInt)) (rLst (rTup K rInt))).up e r_scene
      have r_offset := (rTup K rInt).up e r_offset
      have r_due := (rDat K).up e r_due
      have eL14 := eL14.trans e
      obtain ⟨⟨b, well_here_n⟩, hb, hm⟩ := bind_some hm
      refine a_ifS (cs' := (fun well_here => [(p_well_here, cLst rInt well_here)])) (st_not (cs := (fun well_here => [(p_well_here, cLst rInt well_here)])) (s := well_here) (st_B (cs := (fun well_here => [(p_well_here, cLst rInt well_here)])) (s := well_here) (sm_isi (cs := (fun well_here => [(p_well_here, cLst rInt well_here)])) (s := well_here) is_bool_bool (sm_XcallN (cs := (fun well_here => [(p_well_here, cLst rInt well_here)])) (s := well_here) (sh := (fun a b => (b.2.1, b.1, ()))) (sag_nil (cs := (fun well_here => [(p_well_here, cLst rInt well_here)])) (s := well_here)) (fun well_here => (sag_cons (cs := (fun well_here => [(p_well_here, cLst rInt well_here)])) (s := well_here) (sm_Mcall2 (cs := (fun well_here => [(p_well_here, cLst rInt well_here)])) (s := well_here) (cell := fun z => cLst rInt z) (i0 := 0) (j0 := 0) rfl (fun _ => rfl) (fun _ _ => rfl) (EM.sm (cs := (fun well_here => [(p_well_here, cLst rInt well_here)])) (s := well_here) (em_varf (i := 1) fl_int rfl r_size)) (fun well_here => (EM.sm (cs := (fun well_here => [(p_well_here, cLst rInt well_here)])) (s := well_here) (em_powC (n := 59) rfl (by decide) (by decide))))) fun well_here => (sag_cons (cs := (fun well_here => [(p_well_here, cLst rInt well_here)])) (s := well_here) (EM.sm (cs := (fun well_here => [(p_well_here, cLst rInt well_here)])) (s := well_here) (em_var (i := 5) rfl r_scene)) fun well_here => (sag_nil (cs := (fun well_here => [(p_well_here, cLst rInt well_here)])) (s := well_here))))) (fun H vs zs a b h1 h2 => by cases h1; obtain ⟨z1, _, rfl, x1, z0, _, rfl, x0, rfl⟩ := h2; exact ⟨_, _, rfl, x0, _, _, rfl, x1, rfl⟩))))) hb k (fun eb F H e k => ?_) (fun eb F H e k => ?_)
      ·
        subst eb
        dsimp only at hm
        have hm := hT hm
        obtain ⟨well_here, ez_⟩ : ∃ z, z = well_here_n := ⟨_, rfl⟩; subst ez_
        have k : Cov c F [(p_well_here, cLst rInt well_here)] H := k
        have r_spots := (rLst (rTup K rInt)).up e r_spots
        have r_scene := (rO4 (He.ga K "Picture") "dimension" "words" "seen_places" "hidden_places" rInt (rDic rStr) (rLst (rTup K rInt)) (rLst (rTup K rInt))).up e r_scene
        have r_offset := (rTup K rInt).up e r_offset
        have r_due := (rDat K).up e r_due
        have eL14 := eL14.trans e
        obtain ⟨rv, hv, hm⟩ := bind_some hm
        have hm := Option.some.inj hm
        subst hm
        have ho1 := hret1 _ rfl
        rw [ho1] at hm1
        have hm := Option.some.inj hm1
        cases hm
        exact a_ret em_bl hv k fun v F H e k r => hQ v F H (k.keepN 1) r
      ·
        subst eb
        dsimp only at hm
        have hm := hF hm
        obtain ⟨well_here, ez_⟩ : ∃ z, z = well_here_n := ⟨_, rfl⟩; subst ez_
        have k : Cov c F [(p_well_here, cLst rInt well_here)] H := k
        have r_spots := (rLst (rTup K rInt)).up e r_spots
        have r_scene := (rO4 (He.ga K "Picture") "dimension" "words" "seen_places" "hidden_places" rInt (rDic rStr) (rLst (rTup K rInt)) (rLst (rTup K rInt))).up e r_scene
        have r_offset := (rTup K rInt).up e r_offset
        have r_due := (rDat K).up e r_due
        have eL14 := eL14.trans e
        show Ends.nx _ _ _
        have hm := Option.some.inj hm
        subst hm
        exact ⟨F, _, rfl, _, _, _, rfl, eL14, k⟩
  rintro well_here σ1 F H eo ⟨w_offset, w_due, w_many, rfl, e1, k⟩
  subst eo
  have r_spots := (rLst (rTup K rInt)).up (e.trans e1) r_spots
  have r_scene := (rO4 (He.ga K "Picture") "dimension" "words" "seen_places" "hidden_places" rInt (rDic rStr) (rLst (rTup K rInt)) (rLst (rTup K rInt))).up (e.trans e1) r_scene
  refine nxh ?_
  have hv := hm
  have hm : True := trivial
  cases hm
  exact a_retS (cs' := (fun well_here => [(p_well_here, cLst rInt well_here)])) (sm_andV (cs := (fun well_here => [(p_well_here, cLst rInt well_here)])) (s := well_here) (EM.sm (cs := (fun well_here => [(p_well_here, cLst rInt well_here)])) (s := well_here) (em_isi is_bool_bool (em_varf (i := 6) fl_bool rfl r_first))) fun well_here => (sm_Mcall2 (cs := (fun well_here => [(p_well_here, cLst rInt well_here)])) (s := well_here) (cell := fun z => cLst rInt z) (i0 := 0) (j0 := 0) rfl (fun _ => rfl) (fun _ _ => rfl) (EM.sm (cs := (fun well_here => [(p_well_here, cLst rInt well_here)])) (s := well_here) (em_var (i := 5) rfl r_scene)) (fun well_here => (EM.sm (cs := (fun well_here => [(p_well_here, cLst rInt well_here)])) (s := well_here) (em_varf (i := 1) fl_int rfl r_size))))) hv k fun v F H e k r => hQ v F H (k.keepN 1) r
abbrev s_law : Stmt := topS 34
abbrev N_law : List PySem.Str := ["_law_script", "_law_k"]
theorem sc_law : FnScope N_law ["_law_script"] (defScope s_law) := ⟨rfl, rfl, rfl, by decide +kernel, rfl, by decide +kernel, by decide +kernel⟩
def sp_law (K : PySem.W.Frag) : Sp := (Psp1 (rLsW K rInt) rBool m_law)
theorem ok_law {P : Program} {w : World} {K : PySem.W.Frag} {mg : PySem.Str → Option Value} {base : Heap} (T : Txt mg) (L : ClsF K mg) (E_ : ErrF K mg erL) (C_well : Cal P w K mg base 1 "_law_well" ["_law_script", "_law_k"] (sp_well K) (fun _ => True)) (C_case : Cal P w K mg base 7 "_law_case" ["_law_well_here"] (sp_case K) (fun _ => True)) {f : Addr} {fd : FuncData} (Fn : FnP K "law" s_law f fd) : FnOk P w K mg base CX0 8 f fd ["_law_script"] (sp_law K) := by
  obtain ⟨f_well, fd_well, G_well, g_well, kp_well, b_well, _⟩ := C_well.ex
  obtain ⟨f_case, fd_case, G_case, g_case, kp_case, b_case, _⟩ := C_case.ex
  refine Fn.ok sc_law (fun vs H Q E h => Psp1_len h) (fun cdv A outer s H vs Q E hr h => ?_)
  obtain ⟨F, v_script, script, res, rfl, ex, r_script, hm, hQ⟩ := h
  have k := Cov.init ex
  generalize hc : Act.mk H F [] = c at k hQ
  unfold m_law at hm
  refine ⟨_, PSs.nox (pss_cons (ps_for PassesOwn.never rfl (pi_range1 (by rfl) T.b_range (pa_cons (pe_callB (call_max2 rfl) (by rfl) T.b_max (by decide +kernel) (pa_cons pe_int (pa_cons (pe_callB (call_min2 rfl) (by rfl) T.b_min (by decide +kernel) (pa_cons (pe_callB (call_len_seqK K rfl) (by rfl) T.b_len PySem.boot_len (pa_cons (pv 0) pa_nil)) (pa_cons pe_int pa_nil))) pa_nil))) pa_nil)) (pg_name (i := 1) sc_law.nd rfl (Or.inl rfl)) (pss_one (ps_if (pt_not (pt_val (pe_call G_case (hr.mono (by decide)) (by rfl) g_case kp_case b_case .nil pass0 (pa_cons (pe_call G_well (hr.mono (by decide)) (by rfl) g_well kp_well b_well .nil pass0 (pa_cons (pv 0) (pa_cons (pv 1) pa_nil))) pa_nil)))) (pss_one (ps_ret pe_bl)) pss_nil))) (pss_one (ps_ret pe_bl))), ?_⟩
  show (_ : TS) _ [some v_script, none] _
  obtain ⟨l_, hl, hm⟩ := bind_some hm
  obtain ⟨out1, hf, hm⟩ := bind_some hm
  have hm1 := hm
  refine sq ?_
  refine a_loop (ei_rng1 (em_cb2 vc_max em_int (em_cb2 vc_min (el_len ((em_var (i := 0) rfl r_script)).elw) em_int))) hl k hf fun F H e k => ⟨fun g σ1 F1 H1 => ∃ w_k_, σ1 = [some v_script, w_k_] ∧ Ex F F1 ∧ Cov c F1 [] H1, fun g => [], ?_, ?_, ?_, ?_⟩
  · exact ⟨_, rfl, Evl.Ex.refl _, k⟩
  · rintro g σ1 F1 H1 ⟨_, rfl, e1, k1⟩
    exact ⟨e1, k1⟩
  · rintro d v ⟨⟩ oo1 σ1 F1 H1 F H ⟨w_k_, rfl, eL15, _⟩ e1 k rd hm hret1 hbrk1
    have eL15 := eL15.trans e1
    have r_script := (rLsW K rInt).up (e.trans eL15) r_script
    obtain ⟨k_, ez_⟩ : ∃ z, z = d := ⟨_, rfl⟩; subst ez_
    obtain ⟨v_k_, ez_⟩ : ∃ z, z = v := ⟨_, rfl⟩; subst ez_
    have r_k_ := rd
    refine gn (σ1 := [some v_script, some v_k_]) rfl ?_
    obtain ⟨b, hb, hm⟩ := bind_some hm
    refine a_if (et_not (et_B (em_Tcall0 (em_Fcall2t (em_var (i := 0) rfl r_script) (em_varf (i := 1) fl_int rfl r_k_)) ))) hb k (fun eb F H e k => ?_) (fun eb F H e k => ?_)
    ·
      subst eb
      have hm := hT hm
      have r_script := (rLsW K rInt).up e r_script
      have eL15 := eL15.trans e
      obtain ⟨rv, hv, hm⟩ := bind_some hm
      have hm := Option.some.inj hm
      subst hm
      have ho1 := hret1 _ rfl
      rw [ho1] at hm1
      have hm := Option.some.inj hm1
      cases hm
      exact a_ret em_bl hv k fun v F H e k r => hQ v F H k.dropAll r
    ·
      subst eb
      have hm := hF hm
      have r_script := (rLsW K rInt).up e r_script
      have eL15 := eL15.trans e
      show Ends.nx _ _ _
      have hm := Option.some.inj hm
      subst hm
      exact ⟨F, _, rfl, _, rfl, eL15, k⟩
  rintro ⟨⟩ σ1 F H eo ⟨w_k_, rfl, e1, k⟩
  subst eo
  have r_script := (rLsW K rInt).up (e.trans e1) r_script
  refine nxh ?_
  obtain ⟨rv, hv, hm⟩ := bind_some hm
  have hm := Option.some.inj hm
  cases hm
  exact a_ret em_bl hv k fun v F H e k r => hQ v F H k.dropAll r
theorem law_end {K : PySem.W.Frag} (hp : ∀ s : List Int, s.length ≤ 63 → m_law s = some true) (H : Hp) (a : Addr) (ns : List Int) (hl : ns.length ≤ 63) (hS : SqL K H a (ns.map V.int)) : sp_law K [.ref a] H (fun v H2 => v = .bl true) (fun _ _ _ => False) :=
  ⟨H, .ref a, ns, true, rfl, Evl.Ex.refl H, ⟨a, ns.map V.int, rfl, hS, int_rs⟩, hp ns hl, fun v F2 H2 k r => r⟩
end Wk

set_option maxHeartbeats 0
namespace Wk
open PySem PySem.Spec PyProof.Rows L2 Mw Mi
def d_common_divisor : Hm.DefM := ⟨fun K => He.ga K "common_divisor", "common_divisor", "common_divisor", defArgs s_common_divisor, defBody s_common_divisor, defScope s_common_divisor⟩
def d_divisor_of : Hm.DefM := ⟨fun K => He.ga K "divisor_of", "divisor_of", "divisor_of", defArgs s_divisor_of, defBody s_divisor_of, defScope s_divisor_of⟩
def d_plus : Hm.DefM := ⟨fun K => He.ga K "plus", "plus", "plus", defArgs s_plus, defBody s_plus, defScope s_plus⟩
def d_power : Hm.DefM := ⟨fun K => He.ga K "power", "power", "power", defArgs s_power, defBody s_power, defScope s_power⟩
def d_remainders_by : Hm.DefM := ⟨fun K => He.ga K "remainders_by", "remainders_by", "remainders_by", defArgs s_remainders_by, defBody s_remainders_by, defScope s_remainders_by⟩
def d_numbered : Hm.DefM := ⟨fun K => He.ga K "numbered", "numbered", "numbered", defArgs s_numbered, defBody s_numbered, defScope s_numbered⟩
def d_all_remainders : Hm.DefM := ⟨fun K => He.ga K "all_remainders", "all_remainders", "all_remainders", defArgs s_all_remainders, defBody s_all_remainders, defScope s_all_remainders⟩
def d_all_seen : Hm.DefM := ⟨fun K => He.ga K "all_seen", "all_seen", "all_seen", defArgs s_all_seen, defBody s_all_seen, defScope s_all_seen⟩
def d_is_shown : Hm.DefM := ⟨fun K => He.ga K "is_shown", "is_shown", "is_shown", defArgs s_is_shown, defBody s_is_shown, defScope s_is_shown⟩
def d_Picture_size : Hm.DefM := ⟨fun K => Hm.pg K (He.ga K "Picture") "size", "size", "Picture.size", defArgs s_Picture_size, defBody s_Picture_size, defScope s_Picture_size⟩
def d_Picture_seen : Hm.DefM := ⟨fun K => Hm.pg K (He.ga K "Picture") "seen", "seen", "Picture.seen", defArgs s_Picture_seen, defBody s_Picture_seen, defScope s_Picture_seen⟩
def d_Picture_hidden : Hm.DefM := ⟨fun K => Hm.pg K (He.ga K "Picture") "hidden", "hidden", "Picture.hidden", defArgs s_Picture_hidden, defBody s_Picture_hidden, defScope s_Picture_hidden⟩
def d_shows : Hm.DefM := ⟨fun K => He.ga K "shows", "shows", "shows", defArgs s_shows, defBody s_shows, defScope s_shows⟩
def d_check_prime : Hm.DefM := ⟨fun K => He.ga K "check_prime", "check_prime", "check_prime", defArgs s_check_prime, defBody s_check_prime, defScope s_check_prime⟩
def d_classes : Hm.DefM := ⟨fun K => He.ga K "classes", "classes", "classes", defArgs s_classes, defBody s_classes, defScope s_classes⟩
def d_judge_barring : Hm.DefM := ⟨fun K => He.ga K "judge_barring", "judge_barring", "judge_barring", defArgs s_judge_barring, defBody s_judge_barring, defScope s_judge_barring⟩
def d_Picture___init__ : Hm.DefM := ⟨fun K => He.ma K (He.ga K "Picture") "__init__", "__init__", "Picture.__init__", defArgs s_Picture___init__, defBody s_Picture___init__, defScope s_Picture___init__⟩
def d_well : Hm.DefM := ⟨fun K => He.ga K "_law_well", "_law_well", "_law_well", defArgs s_well, defBody s_well, defScope s_well⟩
def d_draw : Hm.DefM := ⟨fun K => He.ga K "_law_draw", "_law_draw", "_law_draw", defArgs s_draw, defBody s_draw, defScope s_draw⟩
def d_spot : Hm.DefM := ⟨fun K => He.ga K "_law_spot", "_law_spot", "_law_spot", defArgs s_spot, defBody s_spot, defScope s_spot⟩
def d_refused_shift : Hm.DefM := ⟨fun K => He.ga K "_law_refused_shift", "_law_refused_shift", "_law_refused_shift", defArgs s_refused_shift, defBody s_refused_shift, defScope s_refused_shift⟩
def d_refused_prime : Hm.DefM := ⟨fun K => He.ga K "_law_refused_prime", "_law_refused_prime", "_law_refused_prime", defArgs s_refused_prime, defBody s_refused_prime, defScope s_refused_prime⟩
def d_primes_right : Hm.DefM := ⟨fun K => He.ga K "_law_primes_right", "_law_primes_right", "_law_primes_right", defArgs s_primes_right, defBody s_primes_right, defScope s_primes_right⟩
def d_case : Hm.DefM := ⟨fun K => He.ga K "_law_case", "_law_case", "_law_case", defArgs s_case, defBody s_case, defScope s_case⟩
def d_law : Hm.DefM := ⟨fun K => He.ga K "law", "law", "law", defArgs s_law, defBody s_law, defScope s_law⟩
def d_ei : Hm.DefM := ⟨fun K => eiA K, "__init__", "PostError.__init__", defArgs s_ei, defBody s_ei, defScope s_ei⟩
def fnL : List Hm.DefM := [d_common_divisor, d_divisor_of, d_plus, d_power, d_remainders_by, d_numbered, d_all_remainders, d_all_seen, d_is_shown, d_Picture_size, d_Picture_seen, d_Picture_hidden, d_shows, d_check_prime, d_classes, d_judge_barring, d_Picture___init__, d_well, d_draw, d_spot, d_refused_shift, d_refused_prime, d_primes_right, d_case, d_law, d_ei]
def faL : List Hm.Fc := [(Hm.fa (.glo "common_divisor")), (Hm.fa (.glo "divisor_of")), (Hm.fa (.glo "plus")), (Hm.fa (.glo "power")), (Hm.fa (.glo "remainders_by")), (Hm.fa (.glo "numbered")), (Hm.fa (.glo "all_remainders")), (Hm.fa (.glo "all_seen")), (Hm.fa (.glo "is_shown")), (Hm.fa (.glo "shows")), (Hm.fa (.glo "check_prime")), (Hm.fa (.glo "classes")), (Hm.fa (.glo "judge_barring")), (Hm.fa (.glo "_law_well")), (Hm.fa (.glo "_law_draw")), (Hm.fa (.glo "_law_spot")), (Hm.fa (.glo "_law_refused_shift")), (Hm.fa (.glo "_law_refused_prime")), (Hm.fa (.glo "_law_primes_right")), (Hm.fa (.glo "_law_case")), (Hm.fa (.glo "law")), (Hm.fa (.free "abs")), (Hm.fa (.free "bool")), (Hm.fa (.free "int")), (Hm.fa (.free "isinstance")), (Hm.fa (.free "len")), (Hm.fa (.free "list")), (Hm.fa (.free "max")), (Hm.fa (.free "min")), (Hm.fa (.free "range")), (Hm.fa (.free "sorted")), (Hm.fa (.free "tuple")), (Hm.fa (.glo "Picture")), (Hm.fa (.cls "Picture")), (Hm.fa (.noat "Picture" "dimension")), (Hm.fa (.noat "Picture" "words")), (Hm.fa (.noat "Picture" "seen_places")), (Hm.fa (.noat "Picture" "hidden_places")), (Hm.propB "Picture" "size"), (Hm.propB "Picture" "seen"), (Hm.propB "Picture" "hidden"), (Hm.fa (.mkr "Picture")), (Mw.errB erL)]
abbrev RX : PySem.W.OpenRow := PySem.W.OpenLaw.row PySem.Challenge.rw_seenposts_k24_refused_shifts_and_primes
abbrev hkX : PySem.W.Hook := Hm.hookM 5 faL fnL
def obX (s : PySem.W.SharedT) : He.AlD := Hm.obsMG 5 faL fnL (HandSHeadRun.getT s)
theorem obX_eq (s : PySem.W.SharedT) : obX s = hkX.obs s.abs := Hm.obsMG_eq (HandSHeadRun.getT_eq s)
theorem runX (w : World) : HandSHeadRun.RunEq RX (PySem.W.view RX.prog [34]) hkX obX 20000 ((["_wall", "common_divisor", "divisor_of", "plus", "PostError", "InvalidSize", "InvalidPlace", "DoublePlace", "InvalidNumber", "Conflict", "power", "remainders_by", "numbered", "all_remainders", "all_seen", "is_shown", "shows", "check_prime", "classes", "judge_barring", "Picture", "_law_well", "_law_draw", "_law_spot", "_law_refused_shift"] : List PySem.Str) ++ (["_law_refused_prime", "_law_primes_right", "_law_case"] : List PySem.Str)) w := by
  intro os
  kernel_rfl
theorem factsX {P : Program} {w : World} {K : PySem.W.Frag} {h : Heap} {mg : PySem.Str → Option Value} {f : Addr} (X : K.In h) (G : h.Ns mainGlobals mg) (hfa : mg ("law" : PySem.Str) = some (.ref f)) (c : Hm.SaysM faL fnL K) :
    ∃ fd : FuncData, (∀ (s : Shared) (v : Value), BindsTo s fd ⟨[v], []⟩ [("_law_script", v)]) ∧ ∀ base : Heap, K.In base → base.Ns mainGlobals mg → FnOk P w K mg base CX0 8 f fd ["_law_script"] (sp_law K) := by
  obtain ⟨fd_0, F_0⟩ := c.def_ 0 (d := d_common_divisor) rfl
  obtain ⟨fd_1, F_1⟩ := c.def_ 1 (d := d_divisor_of) rfl
  obtain ⟨fd_2, F_2⟩ := c.def_ 2 (d := d_plus) rfl
  obtain ⟨fd_3, F_3⟩ := c.def_ 3 (d := d_power) rfl
  obtain ⟨fd_4, F_4⟩ := c.def_ 4 (d := d_remainders_by) rfl
  obtain ⟨fd_5, F_5⟩ := c.def_ 5 (d := d_numbered) rfl
  obtain ⟨fd_6, F_6⟩ := c.def_ 6 (d := d_all_remainders) rfl
  obtain ⟨fd_7, F_7⟩ := c.def_ 7 (d := d_all_seen) rfl
  obtain ⟨fd_8, F_8⟩ := c.def_ 8 (d := d_is_shown) rfl
  obtain ⟨fd_9, F_9⟩ := c.def_ 9 (d := d_Picture_size) rfl
  obtain ⟨fd_10, F_10⟩ := c.def_ 10 (d := d_Picture_seen) rfl
  obtain ⟨fd_11, F_11⟩ := c.def_ 11 (d := d_Picture_hidden) rfl
  obtain ⟨fd_12, F_12⟩ := c.def_ 12 (d := d_shows) rfl
  obtain ⟨fd_13, F_13⟩ := c.def_ 13 (d := d_check_prime) rfl
  obtain ⟨fd_14, F_14⟩ := c.def_ 14 (d := d_classes) rfl
  obtain ⟨fd_15, F_15⟩ := c.def_ 15 (d := d_judge_barring) rfl
  obtain ⟨fd_16, F_16⟩ := c.def_ 16 (d := d_Picture___init__) rfl
  obtain ⟨fd_17, F_17⟩ := c.def_ 17 (d := d_well) rfl
  obtain ⟨fd_18, F_18⟩ := c.def_ 18 (d := d_draw) rfl
  obtain ⟨fd_19, F_19⟩ := c.def_ 19 (d := d_spot) rfl
  obtain ⟨fd_20, F_20⟩ := c.def_ 20 (d := d_refused_shift) rfl
  obtain ⟨fd_21, F_21⟩ := c.def_ 21 (d := d_refused_prime) rfl
  obtain ⟨fd_22, F_22⟩ := c.def_ 22 (d := d_primes_right) rfl
  obtain ⟨fd_23, F_23⟩ := c.def_ 23 (d := d_case) rfl
  obtain ⟨fd_24, F_24⟩ := c.def_ 24 (d := d_law) rfl
  have T : Txt mg := ⟨He.free_ok X G (c.fact 21 (f := (Hm.fa (.free "abs"))) rfl), He.free_ok X G (c.fact 22 (f := (Hm.fa (.free "bool"))) rfl), He.free_ok X G (c.fact 23 (f := (Hm.fa (.free "int"))) rfl), He.free_ok X G (c.fact 24 (f := (Hm.fa (.free "isinstance"))) rfl), He.free_ok X G (c.fact 25 (f := (Hm.fa (.free "len"))) rfl), He.free_ok X G (c.fact 26 (f := (Hm.fa (.free "list"))) rfl), He.free_ok X G (c.fact 27 (f := (Hm.fa (.free "max"))) rfl), He.free_ok X G (c.fact 28 (f := (Hm.fa (.free "min"))) rfl), He.free_ok X G (c.fact 29 (f := (Hm.fa (.free "range"))) rfl), He.free_ok X G (c.fact 30 (f := (Hm.fa (.free "sorted"))) rfl), He.free_ok X G (c.fact 31 (f := (Hm.fa (.free "tuple"))) rfl)⟩
  have E_ : ErrF K mg erL := errB_ok X G (c.fact 42 (f := (Mw.errB erL)) rfl)
  obtain ⟨fd_ei, F_ei⟩ := c.def_ 25 (d := d_ei) rfl
  have L : ClsF K mg := ⟨He.cls_ok (c.fact 33 (f := (Hm.fa (.cls "Picture"))) rfl), He.glo_ok X G (c.fact 32 (f := (Hm.fa (.glo "Picture"))) rfl), He.noat_ok (c.fact 34 (f := (Hm.fa (.noat "Picture" "dimension"))) rfl), He.noat_ok (c.fact 35 (f := (Hm.fa (.noat "Picture" "words"))) rfl), He.noat_ok (c.fact 36 (f := (Hm.fa (.noat "Picture" "seen_places"))) rfl), He.noat_ok (c.fact 37 (f := (Hm.fa (.noat "Picture" "hidden_places"))) rfl)⟩
  have e := hfa.symm.trans (He.glo_ok X G (c.fact 20 (f := (Hm.fa (.glo "law"))) rfl))
  cases e
  have b := FunD.bindsA (ps := ["_law_script"]) F_24 fun _ _ _ _ _ _ us hl => match us, hl with | [_], _ => rfl
  refine ⟨fd_24, fun s v => b s [v] rfl, fun base hb hb2 => ?_⟩
  have C_ei : CalE P w K mg base erL := ⟨_, ok_ei E_ F_ei, F_ei.bindsN (fun _ _ _ _ _ _ us hl => match us, hl with | [_, _], _ => rfl)⟩
  have C_common_divisor : Cal P w K mg base 1 "common_divisor" ["one", "other"] (sp_common_divisor K) (fun _ => True) := ⟨_, _, ok_common_divisor T L E_  F_0, He.glo_ok X G (c.fact 0 (f := (Hm.fa (.glo "common_divisor"))) rfl), F_0.kp, F_0.bindsN (fun _ _ _ _ _ _ us hl => match us, hl with | [_, _], _ => rfl), trivial⟩
  have C_divisor_of : Cal P w K mg base 2 "divisor_of" ["values"] (sp_divisor_of K) (fun _ => True) := ⟨_, _, ok_divisor_of T L E_ C_common_divisor F_1, He.glo_ok X G (c.fact 1 (f := (Hm.fa (.glo "divisor_of"))) rfl), F_1.kp, F_1.bindsN (fun _ _ _ _ _ _ us hl => match us, hl with | [_], _ => rfl), trivial⟩
  have C_plus : Cal P w K mg base 1 "plus" ["one", "other"] (sp_plus K) (fun _ => True) := ⟨_, _, ok_plus T L E_  F_2, He.glo_ok X G (c.fact 2 (f := (Hm.fa (.glo "plus"))) rfl), F_2.kp, F_2.bindsN (fun _ _ _ _ _ _ us hl => match us, hl with | [_, _], _ => rfl), trivial⟩
  have C_power : Cal P w K mg base 1 "power" ["prime", "size"] (sp_power K) (fun _ => True) := ⟨_, _, ok_power T L E_  F_3, He.glo_ok X G (c.fact 3 (f := (Hm.fa (.glo "power"))) rfl), F_3.kp, F_3.bindsN (fun _ _ _ _ _ _ us hl => match us, hl with | [_, _], _ => rfl), trivial⟩
  have C_remainders_by : Cal P w K mg base 1 "remainders_by" ["place", "prime"] (sp_remainders_by K) (fun _ => True) := ⟨_, _, ok_remainders_by T L E_  F_4, He.glo_ok X G (c.fact 4 (f := (Hm.fa (.glo "remainders_by"))) rfl), F_4.kp, F_4.bindsN (fun _ _ _ _ _ _ us hl => match us, hl with | [_, _], _ => rfl), trivial⟩
  have C_numbered : Cal P w K mg base 1 "numbered" ["size", "prime", "k"] (sp_numbered K) (fun _ => True) := ⟨_, _, ok_numbered T L E_  F_5, He.glo_ok X G (c.fact 5 (f := (Hm.fa (.glo "numbered"))) rfl), F_5.kp, F_5.bindsN (fun _ _ _ _ _ _ us hl => match us, hl with | [_, _, _], _ => rfl), trivial⟩
  have C_all_remainders : Cal P w K mg base 2 "all_remainders" ["size", "prime"] (sp_all_remainders K) (fun _ => True) := ⟨_, _, ok_all_remainders T L E_ C_power C_numbered F_6, He.glo_ok X G (c.fact 6 (f := (Hm.fa (.glo "all_remainders"))) rfl), F_6.kp, F_6.bindsN (fun _ _ _ _ _ _ us hl => match us, hl with | [_, _], _ => rfl), trivial⟩
  have C_all_seen : Cal P w K mg base 3 "all_seen" ["places", "shift"] (sp_all_seen K) (fun _ => True) := ⟨_, _, ok_all_seen T L E_ C_divisor_of C_plus F_7, He.glo_ok X G (c.fact 7 (f := (Hm.fa (.glo "all_seen"))) rfl), F_7.kp, F_7.bindsN (fun _ _ _ _ _ _ us hl => match us, hl with | [_, _], _ => rfl), trivial⟩
  have C_is_shown : Cal P w K mg base 4 "is_shown" ["seen", "hidden", "shift"] (sp_is_shown K) (fun _ => True) := ⟨_, _, ok_is_shown T L E_ C_divisor_of C_plus C_all_seen F_8, He.glo_ok X G (c.fact 8 (f := (Hm.fa (.glo "is_shown"))) rfl), F_8.kp, F_8.bindsN (fun _ _ _ _ _ _ us hl => match us, hl with | [_, _, _], _ => rfl), trivial⟩
  have C_Picture_size : CalP P w K mg base 1 (He.ga K "Picture") "size" ["self"] (sp_Picture_size K) (fun _ => True) := ⟨_, _, _, ok_Picture_size T L E_  F_9, Hm.prop_ok (c.fact 38 (f := (Hm.propB "Picture" "size")) rfl), F_9.bindsN (fun _ _ _ _ _ _ us hl => match us, hl with | [_], _ => rfl), trivial⟩
  have C_Picture_seen : CalP P w K mg base 1 (He.ga K "Picture") "seen" ["self"] (sp_Picture_seen K) (fun _ => True) := ⟨_, _, _, ok_Picture_seen T L E_  F_10, Hm.prop_ok (c.fact 39 (f := (Hm.propB "Picture" "seen")) rfl), F_10.bindsN (fun _ _ _ _ _ _ us hl => match us, hl with | [_], _ => rfl), trivial⟩
  have C_Picture_hidden : CalP P w K mg base 1 (He.ga K "Picture") "hidden" ["self"] (sp_Picture_hidden K) (fun _ => True) := ⟨_, _, _, ok_Picture_hidden T L E_  F_11, Hm.prop_ok (c.fact 40 (f := (Hm.propB "Picture" "hidden")) rfl), F_11.bindsN (fun _ _ _ _ _ _ us hl => match us, hl with | [_], _ => rfl), trivial⟩
  have C_shows : CalX P w K mg base 5 "shows" ["picture", "shift"] (sp_shows K) (fun fd => KBn K fd ["picture", "shift"] 0 ["shift", "picture"] (fun vs zs => [zs.getD 1 .none, zs.getD 0 .none]) (fun vs zs => [zs.getD 1 .non, zs.getD 0 .non])) := ⟨_, _, ok_shows T L E_ C_ei C_is_shown C_Picture_size C_Picture_seen C_Picture_hidden F_12, He.glo_ok X G (c.fact 9 (f := (Hm.fa (.glo "shows"))) rfl), F_12.kp, F_12.bindsN (fun _ _ _ _ _ _ us hl => match us, hl with | [_, _], _ => rfl), kbN F_12 (fun r1 r2 => (.cons (rel_getD r2 1) (.cons (rel_getD r2 0) .nil))) (fun _ _ _ _ _ _ us ws h1 h2 => match us, h1, ws, h2 with | [], _, [_, _], _ => rfl)⟩
  have C_check_prime : CalX P w K mg base 3 "check_prime" ["size", "prime"] (sp_check_prime K) (fun _ => True) := ⟨_, _, ok_check_prime T L E_ C_ei  F_13, He.glo_ok X G (c.fact 10 (f := (Hm.fa (.glo "check_prime"))) rfl), F_13.kp, F_13.bindsN (fun _ _ _ _ _ _ us hl => match us, hl with | [_, _], _ => rfl), trivial⟩
  have C_classes : CalX P w K mg base 4 "classes" ["picture", "prime"] (sp_classes K) (fun _ => True) := ⟨_, _, ok_classes T L E_ C_remainders_by C_all_remainders C_Picture_size C_Picture_seen C_check_prime F_14, He.glo_ok X G (c.fact 11 (f := (Hm.fa (.glo "classes"))) rfl), F_14.kp, F_14.bindsN (fun _ _ _ _ _ _ us hl => match us, hl with | [_, _], _ => rfl), trivial⟩
  have C_judge_barring : CalX P w K mg base 4 "judge_barring" ["picture", "prime", "told"] (sp_judge_barring K) (fun _ => True) := ⟨_, _, ok_judge_barring T L E_ C_power C_remainders_by C_Picture_size C_Picture_seen C_check_prime F_15, He.glo_ok X G (c.fact 12 (f := (Hm.fa (.glo "judge_barring"))) rfl), F_15.kp, F_15.bindsN (fun _ _ _ _ _ _ us hl => match us, hl with | [_, _, _], _ => rfl), trivial⟩
  have C_Picture___init__ : CalI P w K mg base 1 (He.ga K "Picture") ["self", "size", "seen", "hidden"] (sp_Picture___init__ K) (fun _ => True) := ⟨_, _, ok_Picture___init__ T L E_  F_16, He.mkr_ok (c.fact 41 (f := (Hm.fa (.mkr "Picture"))) rfl), F_16.bindsN (fun _ _ _ _ _ _ us hl => match us, hl with | [_, _, _, _], _ => rfl), trivial⟩
  have C_well : Cal P w K mg base 1 "_law_well" ["_law_script", "_law_k"] (sp_well K) (fun _ => True) := ⟨_, _, ok_well T L E_  F_17, He.glo_ok X G (c.fact 13 (f := (Hm.fa (.glo "_law_well"))) rfl), F_17.kp, F_17.bindsN (fun _ _ _ _ _ _ us hl => match us, hl with | [_, _], _ => rfl), trivial⟩
  have C_draw : Cal P w K mg base 1 "_law_draw" ["_law_well_here", "_law_many"] (sp_draw K) (fun _ => True) := ⟨_, _, ok_draw T L E_  F_18, He.glo_ok X G (c.fact 14 (f := (Hm.fa (.glo "_law_draw"))) rfl), F_18.kp, F_18.bindsN (fun _ _ _ _ _ _ us hl => match us, hl with | [_, _], _ => rfl), trivial⟩
  have C_spot : Cal P w K mg base 2 "_law_spot" ["_law_well_here", "_law_size", "_law_reach"] (sp_spot K) (fun _ => True) := ⟨_, _, ok_spot T L E_ C_draw F_19, He.glo_ok X G (c.fact 15 (f := (Hm.fa (.glo "_law_spot"))) rfl), F_19.kp, F_19.bindsN (fun _ _ _ _ _ _ us hl => match us, hl with | [_, _, _], _ => rfl), trivial⟩
  have C_refused_shift : Cal P w K mg base 6 "_law_refused_shift" ["_law_scene", "_law_offset"] (sp_refused_shift K) (fun _ => True) := ⟨_, _, ok_refused_shift T L E_ C_shows F_20, He.glo_ok X G (c.fact 16 (f := (Hm.fa (.glo "_law_refused_shift"))) rfl), F_20.kp, F_20.bindsN (fun _ _ _ _ _ _ us hl => match us, hl with | [_, _], _ => rfl), trivial⟩
  have C_refused_prime : Cal P w K mg base 5 "_law_refused_prime" ["_law_scene", "_law_prime", "_law_told"] (sp_refused_prime K) (fun _ => True) := ⟨_, _, ok_refused_prime T L E_ C_classes C_judge_barring F_21, He.glo_ok X G (c.fact 17 (f := (Hm.fa (.glo "_law_refused_prime"))) rfl), F_21.kp, F_21.bindsN (fun _ _ _ _ _ _ us hl => match us, hl with | [_, _, _], _ => rfl), trivial⟩
  have C_primes_right : Cal P w K mg base 6 "_law_primes_right" ["_law_well_here", "_law_scene", "_law_size"] (sp_primes_right K) (fun _ => True) := ⟨_, _, ok_primes_right T L E_ C_Picture_seen C_classes C_judge_barring C_draw C_refused_prime F_22, He.glo_ok X G (c.fact 18 (f := (Hm.fa (.glo "_law_primes_right"))) rfl), F_22.kp, F_22.bindsN (fun _ _ _ _ _ _ us hl => match us, hl with | [_, _, _], _ => rfl), trivial⟩
  have C_case : Cal P w K mg base 7 "_law_case" ["_law_well_here"] (sp_case K) (fun _ => True) := ⟨_, _, ok_case T L E_ C_shows C_Picture___init__ C_draw C_spot C_refused_shift C_primes_right F_23, He.glo_ok X G (c.fact 19 (f := (Hm.fa (.glo "_law_case"))) rfl), F_23.kp, F_23.bindsN (fun _ _ _ _ _ _ us hl => match us, hl with | [_], _ => rfl), trivial⟩
  exact ok_law T L E_ C_well C_case F_24
end Wk
open PySem PySem.W PySem.Calls PyProof.Rows
theorem PySem.Challenge.cw_seenposts_k24_refused_shifts_and_primes_holds : PySem.Challenge.rw_seenposts_k24_refused_shifts_and_primes.Holds := by
  w_on; o_law
  refine HandSHeadRun.head_any (r := OpenLaw.row PySem.Challenge.rw_seenposts_k24_refused_shifts_and_primes) (q := view (OpenLaw.row PySem.Challenge.rw_seenposts_k24_refused_shifts_and_primes).prog [34]) (H := Wk.hkX) (ob := Wk.obX) (M := 20000) (loose := ((["_wall", "common_divisor", "divisor_of", "plus", "PostError", "InvalidSize", "InvalidPlace", "DoublePlace", "InvalidNumber", "Conflict", "power", "remainders_by", "numbered", "all_remainders", "all_seen", "is_shown", "shows", "check_prime", "classes", "judge_barring", "Picture", "_law_well", "_law_draw", "_law_spot", "_law_refused_shift"] : List PySem.Str) ++ (["_law_refused_prime", "_law_primes_right", "_law_case"] : List PySem.Str))) (d := HandSHeadRun.topDef (OpenLaw.row PySem.Challenge.rw_seenposts_k24_refused_shifts_and_primes).prog 34) (kwd := []) Wk.obX_eq
    (by kernel_rfl) (fun s => by kernel_rfl) Wk.runX (by kernel_rfl) (by kernel_rfl) (by kernel_rfl) (by rfl) (by first | assumption | decide +kernel) (by decide +kernel) ⟨rfl, rfl, rfl, rfl, rfl, by decide +kernel⟩ ?hw ?hc
  case hw => w_witness2
  case hc =>
    refine L2.walk_ofE (l := PySem.Challenge.rw_seenposts_k24_refused_shifts_and_primes) (n := 63) (k := 8) (x := "_law_script") (CX := L2.CX0) rfl (by decide) (by kernel_rfl) ⟨rfl, by decide, by decide⟩ ?F (fun _ _ _ _ z => z)
    intro w mg fa h Y G hmg0
    obtain ⟨K, KX, c⟩ := Y
    have hmg : mg ("law" : PySem.Str) = some (.ref fa) := by
      have e : (HandSHeadRun.topDef (OpenLaw.row PySem.Challenge.rw_seenposts_k24_refused_shifts_and_primes).prog 34).name = ("law" : PySem.Str) := by kernel_rfl
      rw [← e]
      exact hmg0
    obtain ⟨fd, hb, hF⟩ := Wk.factsX (P := (PySem.Challenge.rw_seenposts_k24_refused_shifts_and_primes).prog) (w := w) KX G hmg c
    exact ⟨K, fd, Wk.sp_law K, KX, hb, fun H a ns hl _ hS => Wk.law_end Pl.law_true H a ns hl hS, hF⟩

