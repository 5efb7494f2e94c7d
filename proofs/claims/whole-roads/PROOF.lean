import PyProof.Rows.All
import HandS.ForMost
import HandS.TupSets
import HandS.Deep
import HandS.Style
import HandS.Conv
import HandS.WideBits
import HandS.IsInst
import HandS.Codes
import HandS.TupAny
import HandS.Zip
import PySem.Challenge.RW_solvedbothsides_k14_whole_roads
import KE.GoesEnum
import KE.KRevSl
import HandS.Iter
import HandS.TryOnly
import KE.SortData
import Wide.All
import OpenK.AllK
import Wide.FinOn
import HandS.ForList
set_option Elab.async false
section
set_option linter.all false
set_option maxRecDepth 100000
set_option maxHeartbeats 4000000
/-! R1: worlds (a stable heap within the heap), shapes of values, what a reading evaluates to. -/
namespace RD
open PySem PySem.Spec PyProof.Rows L2

section
variable {K : PySem.W.Frag} {H H' : Hp}
theorem same_t {a : Addr} {xs : List V} (e : Same H H') (h : SqT K H a xs) : SqT K H' a xs := by
  rcases h with (h | ⟨o, h⟩) | h
  · exact .inl (.inl (e _ _ h))
  · exact .inl (.inr ⟨o, e _ _ h⟩)
  · exact .inr h
mutual
theorem dp_mono (e : Same H H') : ∀ {v : V} {d : PyData}, Dp K H v d → Dp K H' v d
  | _, _, .non => .non
  | _, _, .bl b => .bl b
  | _, _, .int i => .int i
  | _, _, .str x => .str x
  | _, _, .lst h a => .lst (e.seq h) (dpa_mono e a)
  | _, _, .tup h a => .tup (same_t e h) (dpa_mono e a)
theorem dpa_mono (e : Same H H') : ∀ {vs : List V} {ds : List PyData}, DpAll K H vs ds → DpAll K H' vs ds
  | _, _, .nil => .nil
  | _, _, .cons h t => .cons (dp_mono e h) (dpa_mono e t)
end
theorem dpa_len : ∀ {vs : List V} {ds : List PyData}, DpAll K H vs ds → vs.length = ds.length
  | _, _, .nil => rfl
  | _, _, .cons _ t => by rw [List.length_cons, List.length_cons, dpa_len t]
theorem dpa_get : ∀ {vs : List V} {ds : List PyData} {i : Nat} {d : PyData}, DpAll K H vs ds → ds[i]? = some d → ∃ v, vs[i]? = some v ∧ Dp K H v d
  | _, _, _, _, .nil, e => by simp at e
  | _, _, 0, _, .cons h _, e => by simp at e; subst e; exact ⟨_, rfl, h⟩
  | _, _, i + 1, _, .cons _ t, e => by
    obtain ⟨v, h1, h2⟩ := dpa_get (i := i) t (by simpa using e)
    exact ⟨v, by simpa using h1, h2⟩
theorem dpa_get' : ∀ {vs : List V} {ds : List PyData} {i : Nat} {v : V}, DpAll K H vs ds → vs[i]? = some v → ∃ d, ds[i]? = some d ∧ Dp K H v d
  | _, _, _, _, .nil, e => by simp at e
  | _, _, 0, _, .cons h _, e => by simp at e; subst e; exact ⟨_, rfl, h⟩
  | _, _, i + 1, _, .cons _ t, e => by
    obtain ⟨v, h1, h2⟩ := dpa_get' (i := i) t (by simpa using e)
    exact ⟨v, by simpa using h1, h2⟩
theorem dpa_append : ∀ {vs ws : List V} {ds es : List PyData}, DpAll K H vs ds → DpAll K H ws es → DpAll K H (vs ++ ws) (ds ++ es)
  | _, _, _, _, .nil, s => s
  | _, _, _, _, .cons h t, s => .cons h (dpa_append t s)
theorem dpa_take : ∀ {vs : List V} {ds : List PyData} (n : Nat), DpAll K H vs ds → DpAll K H (vs.take n) (ds.take n)
  | _, _, 0, _ => .nil
  | _, _, _ + 1, .nil => .nil
  | _, _, n + 1, .cons h t => .cons h (dpa_take n t)
theorem dpa_drop : ∀ {vs : List V} {ds : List PyData} (n : Nat), DpAll K H vs ds → DpAll K H (vs.drop n) (ds.drop n)
  | _, _, 0, r => r
  | _, _, _ + 1, .nil => .nil
  | _, _, n + 1, .cons _ t => dpa_drop n t
theorem dpa_rev {vs : List V} {ds : List PyData} (h : DpAll K H vs ds) : DpAll K H vs.reverse ds.reverse := by
  induction h using DpAll.rec (motive_1 := fun _ _ _ => True) with
  | non => trivial
  | bl => trivial
  | int => trivial
  | str => trivial
  | lst => trivial
  | tup => trivial
  | nil => exact .nil
  | cons h t _ ih =>
    rw [List.reverse_cons, List.reverse_cons]
    exact dpa_append ih (.cons h .nil)
theorem dpa_ints : ∀ {vs : List V} {ns : List Int}, DpAll K H vs (ns.map PyData.int) → vs = ns.map V.int
  | _, [], .nil => rfl
  | _, n :: ns, .cons h t => by
    cases h
    rw [List.map_cons, dpa_ints t]
theorem ints_dpa : ∀ (ns : List Int), DpAll K H (ns.map V.int) (ns.map PyData.int)
  | [] => .nil
  | n :: ns => .cons (.int n) (ints_dpa ns)
theorem dpa_bls : ∀ {vs : List V} {bs : List Bool}, DpAll K H vs (bs.map PyData.bool) → vs = bs.map V.bl
  | _, [], .nil => rfl
  | _, n :: ns, .cons h t => by
    cases h
    rw [List.map_cons, dpa_bls t]
theorem dpa_set : ∀ {vs : List V} {ds : List PyData} {v : V} {d : PyData} (i : Nat), DpAll K H vs ds → Dp K H v d → DpAll K H (vs.set i v) (ds.set i d)
  | _, _, _, _, _, .nil, _ => .nil
  | _, _, _, _, 0, .cons _ t, h => .cons h t
  | _, _, _, _, i + 1, .cons g t, h => .cons g (dpa_set i t h)
end

/-! ### worlds -/
/-- the law's bag: three whole numbers, the second one small -/
def BagOk (H : Hp) (b : Addr) : Prop := ∃ g s n : Int, H b = some (.lst [.int g, .int s, .int n]) ∧ 0 ≤ s ∧ s < 2305843009213693952
/-- from (S, H) on: S the stable part; m: what alone may change -/
structure Stp (m : Option Addr) (S H S' H' : Hp) : Prop where
  ss : Same S S'
  sh : Same S' H'
  hh : ∀ a o, m ≠ some a → H a = some o → H' a = some o
  old : ∀ a, H a ≠ none → S' a = S a
  dom : ∀ a, H a ≠ none → H' a ≠ none
  bag : ∀ b, m = some b → BagOk H b → BagOk H' b
section
variable {m : Option Addr} {S H S1 H1 S2 H2 : Hp}
theorem Stp.refl (h : Same S H) : Stp m S H S H := ⟨Same.refl S, h, fun _ _ _ e => e, fun _ _ => rfl, fun _ e => e, fun _ _ e => e⟩
theorem Stp.trans (a : Stp m S H S1 H1) (b : Stp m S1 H1 S2 H2) : Stp m S H S2 H2 :=
  ⟨a.ss.trans b.ss, b.sh, fun x o hm e => b.hh x o hm (a.hh x o hm e), fun x e => (b.old x (a.dom x e)).trans (a.old x e), fun x e => b.dom x (a.dom x e), fun x hm e => b.bag x hm (a.bag x hm e)⟩
theorem Stp.wide (a : Stp none S H S1 H1) : Stp m S H S1 H1 :=
  ⟨a.ss, a.sh, fun x o _ e => a.hh x o (fun z => nomatch z) e, a.old, a.dom, fun b _ ⟨g, s, n, e, h⟩ => ⟨g, s, n, a.hh b _ (fun z => nomatch z) e, h⟩⟩
theorem Stp.same (a : Stp none S H S1 H1) : Same H H1 := fun x o e => a.hh x o (fun z => nomatch z) e
/-- a new object, kept stable -/
theorem Stp.new (h : Same S H) {p : Addr} {o : HO} (np : H p = none) : Stp m S H (upd S p o) (upd H p o) where
  ss := fun a u e => by
    have hn : H a = some u := h a u e
    rw [upd_ne (ne_of_none hn np)]
    exact e
  sh := fun a u e => by
    by_cases q : a = p
    · subst q
      rw [upd_same] at e ⊢
      exact e
    · rw [upd_ne q] at e ⊢
      exact h a u e
  hh := fun a u _ e => by
    rw [upd_ne (ne_of_none e np)]
    exact e
  old := fun a e => upd_ne (fun q : a = p => e (by rw [q]; exact np))
  dom := fun a e => by
    rw [upd_ne (fun q : a = p => e (by rw [q]; exact np))]
    exact e
  bag := fun b _ ⟨g, s, n, e, r⟩ => ⟨g, s, n, by rw [upd_ne (ne_of_none e np)]; exact e, r⟩
/-- a new object, not yet stable -/
theorem Stp.lay (h : Same S H) {p : Addr} {o : HO} (np : H p = none) : Stp m S H S (upd H p o) where
  ss := Same.refl S
  sh := fun a u e => by
    rw [upd_ne (ne_of_none (h a u e) np)]
    exact h a u e
  hh := fun a u _ e => by
    rw [upd_ne (ne_of_none e np)]
    exact e
  old := fun _ _ => rfl
  dom := fun a e => by
    rw [upd_ne (fun q : a = p => e (by rw [q]; exact np))]
    exact e
  bag := fun b _ ⟨g, s, n, e, r⟩ => ⟨g, s, n, by rw [upd_ne (ne_of_none e np)]; exact e, r⟩
/-- from now on p is stable -/
theorem Stp.freeze (a : Stp m S H S1 H1) {p : Addr} {o : HO} (np : H p = none) (h : H1 p = some o) : Stp m S H (upd S1 p o) H1 where
  ss := fun x u e => by
    by_cases q : x = p
    · subst q
      have h2 := a.sh x u (a.ss x u e)
      rw [h] at h2
      cases h2
      exact upd_same
    · rw [upd_ne q]
      exact a.ss x u e
  sh := fun x u e => by
    by_cases q : x = p
    · subst q
      rw [upd_same] at e
      cases e
      exact h
    · rw [upd_ne q] at e
      exact a.sh x u e
  hh := a.hh
  old := fun x e => by
    rw [upd_ne (fun q : x = p => e (by rw [q]; exact np))]
    exact a.old x e
  dom := a.dom
  bag := a.bag
end

/-! ### shapes -/
/-- a closed closing: each thing's elder, the rows of least numbers -/
structure Clo where
  el : List Nat
  rows : List (Nat × Nat × Nat)
abbrev natD (n : Nat) : PyData := .int (n : Int)
def rowD (r : Nat × Nat × Nat) : PyData := .tuple [natD r.1, natD r.2.1, natD r.2.2]
inductive Sh where
  | d (x : PyData)
  | own (l : Addr) (xs : List PyData)
  | tl (xs : List PyData)
  | clo (c : Clo)
  | bag (b : Addr)
def Sh.im : Sh → Bool
  | .own _ _ => false
  | _ => true
def CloAt (K : PySem.W.Frag) (C : Addr) (S : Hp) (v : V) (c : Clo) : Prop :=
  ∃ p dx e r : Addr, v = .ref p ∧ S p = some (.ins C dx [("elder", .ref e), ("rows", .ref r)]) ∧ Dp K S (.ref e) (.list (c.el.map natD)) ∧ Dp K S (.ref r) (.list (c.rows.map rowD))
/-- a stable list that is tracked as such -/
def TlAt (K : PySem.W.Frag) (S : Hp) (v : V) (xs : List PyData) : Prop := ∃ (l : Addr) (vs : List V), v = .ref l ∧ S l = some (.lst vs) ∧ DpAll K S vs xs
def ShAt (K : PySem.W.Frag) (C : Addr) (S H : Hp) (v : V) : Sh → Prop
  | .d x => Dp K S v x
  | .own l xs => v = .ref l ∧ S l = none ∧ ∃ vs, H l = some (.lst vs) ∧ DpAll K S vs xs
  | .tl xs => TlAt K S v xs
  | .clo c => CloAt K C S v c
  | .bag b => v = .ref b ∧ S b = none ∧ BagOk H b
abbrev Rho := List (Option Sh)
def ownOf : Option Sh → Option Addr
  | some (.own l _) => some l
  | _ => none
def owns (r : Rho) : List Addr := r.filterMap ownOf

section
variable {K : PySem.W.Frag} {C : Addr} {m : Option Addr} {S H S1 H1 S2 H2 S0 H0 : Hp} {v : V} {s : Sh}
theorem clo_mono {c : Clo} (e : Same S S1) (h : CloAt K C S v c) : CloAt K C S1 v c := by
  obtain ⟨p, dx, a, r, e0, e1, e2, e3⟩ := h
  exact ⟨p, dx, a, r, e0, e _ _ e1, dp_mono e e2, dp_mono e e3⟩
theorem tl_mono {xs : List PyData} (e : Same S S1) (h : TlAt K S v xs) : TlAt K S1 v xs := by
  obtain ⟨l, vs, e0, e1, e2⟩ := h
  exact ⟨l, vs, e0, e _ _ e1, dpa_mono e e2⟩
theorem tl_dp {xs : List PyData} (h : TlAt K S v xs) : Dp K S v (.list xs) := by
  obtain ⟨l, vs, e0, e1, e2⟩ := h
  subst e0
  exact .lst (.inl (.inl e1)) e2
theorem bag_ne (h : BagOk H v') : H v' ≠ none := by
  obtain ⟨g, s, n, e, _⟩ := h
  rw [e]
  exact fun z => nomatch z
theorem bag_step {b : Addr} (a : Stp m S H S1 H1) (h : BagOk H b) : BagOk H1 b := by
  by_cases q : m = some b
  · exact a.bag b q h
  · obtain ⟨g, s, n, e, r⟩ := h
    exact ⟨g, s, n, a.hh b _ q e, r⟩
theorem sh_step (a : Stp m S H S1 H1) (hs : ∀ l xs, s = .own l xs → m ≠ some l) (h : ShAt K C S H v s) : ShAt K C S1 H1 v s := by
  cases s with
  | d x => exact dp_mono a.ss h
  | own l xs =>
    obtain ⟨e, e1, vs, e2, e3⟩ := h
    exact ⟨e, (a.old l (by rw [e2]; exact fun z => nomatch z)).trans e1, vs, a.hh l _ (hs l xs rfl) e2, dpa_mono a.ss e3⟩
  | tl xs => exact tl_mono a.ss h
  | clo c => exact clo_mono a.ss h
  | bag b =>
    obtain ⟨e, e1, e2⟩ := h
    exact ⟨e, (a.old b (bag_ne e2)).trans e1, bag_step a e2⟩
theorem sh_im (a : Stp m S H S1 H1) (hs : s.im = true) (h : ShAt K C S H v s) : ShAt K C S1 H1 v s :=
  sh_step a (fun l xs e => by rw [e] at hs; cases hs) h
end

structure StAt (K : PySem.W.Frag) (C : Addr) (m : Option Addr) (S0 H0 : Hp) (r : Rho) (σ : L2.St) (S H : Hp) : Prop where
  stp : Stp m S0 H0 S H
  len : σ.length = r.length
  sl : ∀ (i : Nat) s, r[i]? = some (some s) → ∃ v, σ[i]? = some (some v) ∧ ShAt K C S H v s
  fr : ∀ l ∈ owns r, H0 l = none
  nd : (owns r).Nodup
  mb : ∀ b, m = some b → H0 b ≠ none
  bm : ∀ (i : Nat) b, r[i]? = some (some (.bag b)) → m = some b

theorem own_mem : ∀ {r : Rho} {i : Nat} {l : Addr} {xs : List PyData}, r[i]? = some (some (.own l xs)) → l ∈ owns r
  | [], i, l, xs, h => by simp at h
  | x :: r, 0, l, xs, h => by
    simp at h
    subst h
    simp [owns, ownOf]
  | x :: r, i + 1, l, xs, h => by
    have := own_mem (r := r) (i := i) (by simpa using h)
    unfold owns at this ⊢
    rw [List.filterMap_cons]
    split
    · exact this
    · exact List.mem_cons_of_mem _ this
theorem own_ne : ∀ {r : Rho} {i j : Nat} {l l' : Addr} {xs ys : List PyData}, (owns r).Nodup → r[i]? = some (some (.own l xs)) → r[j]? = some (some (.own l' ys)) → i ≠ j → l ≠ l'
  | [], i, j, l, l', xs, ys, _, h, _, _ => by simp at h
  | x :: r, 0, 0, l, l', xs, ys, _, _, _, ne => absurd rfl ne
  | x :: r, 0, j + 1, l, l', xs, ys, nd, h, h', _ => by
    simp at h
    subst h
    have hm := own_mem (r := r) (i := j) (by simpa using h')
    have nd' : (l :: owns r).Nodup := nd
    intro e
    subst e
    exact (List.nodup_cons.mp nd').1 hm
  | x :: r, i + 1, 0, l, l', xs, ys, nd, h, h', _ => by
    simp at h'
    subst h'
    have hm := own_mem (r := r) (i := i) (by simpa using h)
    have nd' : (l' :: owns r).Nodup := nd
    intro e
    subst e
    exact (List.nodup_cons.mp nd').1 hm
  | x :: r, i + 1, j + 1, l, l', xs, ys, nd, h, h', ne => by
    have nd' : (owns r).Nodup := by
      unfold owns at nd ⊢
      rw [List.filterMap_cons] at nd
      split at nd
      · exact nd
      · exact (List.nodup_cons.mp nd).2
    exact own_ne (r := r) (i := i) (j := j) nd' (by simpa using h) (by simpa using h') (fun e => ne (by rw [e]))
theorem owns_set_sub {x : Option Sh} (hx : ownOf x = none) : ∀ (r : Rho) (i : Nat), (owns (r.set i x)).Sublist (owns r)
  | [], i => by simp [owns]
  | y :: r, 0 => by
    unfold owns
    rw [List.set_cons_zero, List.filterMap_cons, List.filterMap_cons, hx]
    cases ownOf y with
    | none => exact List.Sublist.refl _
    | some l => exact List.sublist_cons_self _ _
  | y :: r, i + 1 => by
    have ih := owns_set_sub hx r i
    unfold owns at ih ⊢
    rw [List.set_cons_succ, List.filterMap_cons, List.filterMap_cons]
    cases ownOf y with
    | none => exact ih
    | some l => exact ih.cons_cons l
theorem owns_set_own {l : Addr} {xs : List PyData} : ∀ (r : Rho) (i : Nat), l ∉ owns r → (owns r).Nodup → (owns (r.set i (some (.own l xs)))).Nodup ∧ ∀ a ∈ owns (r.set i (some (.own l xs))), a = l ∨ a ∈ owns r
  | [], i, _, h => by simp [owns]
  | y :: r, 0, hl, h => by
    have e : owns ((y :: r).set 0 (some (.own l xs))) = l :: owns r := rfl
    rw [e]
    have sub : (owns r).Sublist (owns (y :: r)) := by
      unfold owns
      rw [List.filterMap_cons]
      cases ownOf y with
      | none => exact List.Sublist.refl _
      | some l => exact List.sublist_cons_self _ _
    exact ⟨List.nodup_cons.mpr ⟨fun q => hl (sub.subset q), h.sublist sub⟩, fun a ha => (List.mem_cons.mp ha).imp id fun q => sub.subset q⟩
  | y :: r, i + 1, hl, h => by
    unfold owns at hl h ⊢
    rw [List.filterMap_cons] at hl h
    rw [List.set_cons_succ, List.filterMap_cons, List.filterMap_cons]
    cases e : ownOf y with
    | none =>
      simp only [e] at hl h
      exact owns_set_own r i hl h
    | some l' =>
      simp only [e] at hl h
      obtain ⟨h1, h2⟩ := List.nodup_cons.mp h
      obtain ⟨ih1, ih2⟩ := owns_set_own (l := l) (xs := xs) r i (fun q => hl (List.mem_cons_of_mem _ q)) h2
      refine ⟨List.nodup_cons.mpr ⟨fun q => ?_, ih1⟩, fun a ha => ?_⟩
      · rcases ih2 l' q with z | z
        · exact hl (z ▸ List.mem_cons_self)
        · exact h1 z
      · rcases List.mem_cons.mp ha with z | z
        · exact .inr (z ▸ List.mem_cons_self)
        · exact (ih2 a z).imp id fun q => List.mem_cons_of_mem _ q
theorem owns_set_same {l : Addr} {xs ys : List PyData} : ∀ (r : Rho) (i : Nat), r[i]? = some (some (.own l xs)) → owns (r.set i (some (.own l ys))) = owns r
  | [], i, h => by simp at h
  | y :: r, 0, h => by
    simp at h
    subst h
    rfl
  | y :: r, i + 1, h => by
    have ih := owns_set_same (ys := ys) r i (by simpa using h)
    unfold owns at ih ⊢
    rw [List.set_cons_succ, List.filterMap_cons, List.filterMap_cons, ih]

section
variable {K : PySem.W.Frag} {C : Addr} {m : Option Addr} {S H S1 H1 S2 H2 S0 H0 : Hp} {r r' : Rho} {σ : L2.St}
theorem StAt.sh (x : StAt K C m S0 H0 r σ S H) : Same S H := x.stp.sh
theorem StAt.own_m (x : StAt K C m S0 H0 r σ S H) {l : Addr} (h : l ∈ owns r) : m ≠ some l := fun e => x.mb l e (x.fr l h)
theorem StAt.step (x : StAt K C m S0 H0 r σ S H) (a : Stp m S H S1 H1) : StAt K C m S0 H0 r σ S1 H1 :=
  ⟨x.stp.trans a, x.len, fun i s e => by
    obtain ⟨v, h1, h2⟩ := x.sl i s e
    exact ⟨v, h1, sh_step a (fun l xs q => x.own_m (own_mem (by rw [← q]; exact e))) h2⟩, x.fr, x.nd, x.mb, x.bm⟩
/-- the stable part from here on -/
theorem StAt.rebase (x : StAt K C m S0 H0 r σ S H) : StAt K C m S H0 r σ S H :=
  ⟨⟨Same.refl S, x.stp.sh, x.stp.hh, fun _ _ => rfl, x.stp.dom, x.stp.bag⟩, x.len, x.sl, x.fr, x.nd, x.mb, x.bm⟩
theorem StAt.base (x : StAt K C m S0 H0 r σ S H) {σ' : L2.St} (y : StAt K C m S H0 r' σ' S1 H1) : StAt K C m S0 H0 r' σ' S1 H1 :=
  ⟨⟨x.stp.ss.trans y.stp.ss, y.stp.sh, y.stp.hh, fun a e => (y.stp.old a e).trans (x.stp.old a e), y.stp.dom, y.stp.bag⟩, y.len, y.sl, y.fr, y.nd, y.mb, y.bm⟩
theorem set_get {α : Type} {l : List α} {i j : Nat} {x y : α} (h : (l.set i x)[j]? = some y) : (i = j ∧ y = x) ∨ (i ≠ j ∧ l[j]? = some y) := by
  by_cases e : i = j
  · subst e
    by_cases q : i < l.length
    · rw [List.getElem?_set_self q] at h
      exact .inl ⟨rfl, (Option.some.inj h).symm⟩
    · rw [List.getElem?_eq_none (by rw [List.length_set]; omega)] at h
      cases h
  · rw [List.getElem?_set_ne e] at h
    exact .inr ⟨e, h⟩
/-- a slot gets a value -/
theorem StAt.put (x : StAt K C m S0 H0 r σ S H) {i : Nat} {v : V} {s : Sh} (hs : s.im = true) (hb : ∀ b, s = .bag b → m = some b) (h : ShAt K C S H v s) : StAt K C m S0 H0 (r.set i (some s)) (σ.set i (some v)) S H := by
  have ho : ownOf (some s) = none := by
    cases s with
    | own l xs => cases hs
    | d _ => rfl
    | tl _ => rfl
    | clo _ => rfl
    | bag _ => rfl
  have sub := owns_set_sub ho r i
  refine ⟨x.stp, by rw [List.length_set, List.length_set]; exact x.len, fun j t e => ?_, fun l hl => x.fr l (sub.subset hl), x.nd.sublist sub, x.mb, fun j b e => ?_⟩
  · rcases set_get e with ⟨rfl, q⟩ | ⟨ne, q⟩
    · have q' : t = s := Option.some.inj q
      subst q'
      have hi : i < r.length := by
        by_cases z : i < r.length
        · exact z
        · rw [List.getElem?_eq_none (by rw [List.length_set]; omega)] at e
          cases e
      exact ⟨v, List.getElem?_set_self (by rw [x.len]; exact hi), h⟩
    · obtain ⟨w, h1, h2⟩ := x.sl j t q
      exact ⟨w, by rw [List.getElem?_set_ne ne]; exact h1, h2⟩
  · rcases set_get e with ⟨rfl, q⟩ | ⟨ne, q⟩
    · have q' : Sh.bag b = s := Option.some.inj q
      exact hb b q'.symm
    · exact x.bm j b q
/-- a slot is forgotten -/
theorem StAt.drop (x : StAt K C m S0 H0 r σ S H) {i : Nat} (y : Option V) : StAt K C m S0 H0 (r.set i none) (σ.set i y) S H := by
  have sub := owns_set_sub (x := none) rfl r i
  refine ⟨x.stp, by rw [List.length_set, List.length_set]; exact x.len, fun j t e => ?_, fun l hl => x.fr l (sub.subset hl), x.nd.sublist sub, x.mb, fun j b e => ?_⟩
  · rcases set_get e with ⟨rfl, q⟩ | ⟨ne, q⟩
    · cases q
    · obtain ⟨w, h1, h2⟩ := x.sl j t q
      exact ⟨w, by rw [List.getElem?_set_ne ne]; exact h1, h2⟩
  · rcases set_get e with ⟨rfl, q⟩ | ⟨ne, q⟩
    · cases q
    · exact x.bm j b q
/-- a slot gets a new list -/
theorem StAt.putOwn (x : StAt K C m S0 H0 r σ S H) {i : Nat} {l : Addr} {vs : List V} {xs : List PyData} (a : Stp m S H S1 H1) (hn : H l = none) (h1 : S1 l = none) (h2 : H1 l = some (.lst vs)) (h3 : DpAll K S1 vs xs) :
    StAt K C m S0 H0 (r.set i (some (.own l xs))) (σ.set i (some (.ref l))) S1 H1 := by
  have y := x.step a
  have nl : l ∉ owns r := fun q => by
    have : ∃ (i : Nat) (xs : List PyData), r[i]? = some (some (Sh.own l xs)) := by
      unfold owns at q
      obtain ⟨z, hz, e⟩ := List.mem_filterMap.mp q
      obtain ⟨i, hi⟩ := List.mem_iff_getElem?.mp hz
      cases z with
      | none => cases e
      | some s =>
        cases s with
        | own l' xs =>
          have e' : l' = l := Option.some.inj e
          subst e'
          exact ⟨i, xs, hi⟩
        | d _ => cases e
        | tl _ => cases e
        | clo _ => cases e
        | bag _ => cases e
    obtain ⟨i, xs, hi⟩ := this
    obtain ⟨w, _, _, _, vs, hv, _⟩ := x.sl i _ hi
    rw [hn] at hv
    cases hv
  obtain ⟨n1, n2⟩ := owns_set_own (l := l) (xs := xs) r i nl x.nd
  have h0 : H0 l = none := by
    cases q : H0 l with
    | none => rfl
    | some o => exact absurd hn (x.stp.dom l (by rw [q]; exact fun z => nomatch z))
  refine ⟨y.stp, by rw [List.length_set, List.length_set]; exact x.len, fun j t e => ?_, fun l' hl => ?_, n1, x.mb, fun j b e => ?_⟩
  · rcases set_get e with ⟨rfl, q⟩ | ⟨ne, q⟩
    · have q' : t = .own l xs := Option.some.inj q
      subst q'
      have hi : i < r.length := by
        by_cases z : i < r.length
        · exact z
        · rw [List.getElem?_eq_none (by rw [List.length_set]; omega)] at e
          cases e
      exact ⟨.ref l, List.getElem?_set_self (by rw [x.len]; exact hi), rfl, h1, vs, h2, h3⟩
    · obtain ⟨w, g1, g2⟩ := y.sl j t q
      exact ⟨w, by rw [List.getElem?_set_ne ne]; exact g1, g2⟩
  · rcases n2 l' hl with z | z
    · rw [z]; exact h0
    · exact x.fr l' z
  · rcases set_get e with ⟨rfl, q⟩ | ⟨ne, q⟩
    · cases q
    · exact x.bm j b q
/-- an own list changes -/
theorem StAt.chg (x : StAt K C m S0 H0 r σ S H) {i : Nat} {l : Addr} {xs ys : List PyData} {ws : List V} (hi : r[i]? = some (some (.own l xs))) (h3 : DpAll K S ws ys) :
    StAt K C m S0 H0 (r.set i (some (.own l ys))) σ S (upd H l (.lst ws)) := by
  have hm := own_mem hi
  have hl0 := x.fr l hm
  have hml := x.own_m hm
  obtain ⟨w, hw, rfl, hS, vs, hv, _⟩ := x.sl i _ hi
  have il : i < r.length := (List.getElem?_eq_some_iff.mp hi).1
  have eo := owns_set_same (ys := ys) r i hi
  have n0 : ∀ a, H0 a ≠ none → a ≠ l := fun a h q => h (q ▸ hl0)
  have bl : ∀ b, m = some b → BagOk H b → BagOk (upd H l (.lst ws)) b := fun b hb ⟨g, s, n, e, q⟩ => ⟨g, s, n, by rw [upd_ne (fun z : b = l => hml (by rw [hb, z]))]; exact e, q⟩
  refine ⟨⟨x.stp.ss, fun a o e => ?_, fun a o hma e => ?_, x.stp.old, fun a e => ?_, fun b hb e => bl b hb (x.stp.bag b hb e)⟩, by rw [List.length_set]; exact x.len, fun j t e => ?_, by rw [eo]; exact x.fr, by rw [eo]; exact x.nd, x.mb, fun j b e => ?_⟩
  · rw [upd_ne (ne_of_none e hS)]
    exact x.stp.sh a o e
  · rw [upd_ne (n0 a (by rw [e]; exact fun z => nomatch z))]
    exact x.stp.hh a o hma e
  · rw [upd_ne (n0 a e)]
    exact x.stp.dom a e
  · rcases set_get e with ⟨rfl, q⟩ | ⟨ne, q⟩
    · have q' : t = .own l ys := Option.some.inj q
      subst q'
      exact ⟨.ref l, hw, rfl, hS, ws, upd_same, h3⟩
    · obtain ⟨u, g1, g2⟩ := x.sl j t q
      refine ⟨u, g1, ?_⟩
      cases t with
      | d _ => exact g2
      | tl _ => exact g2
      | clo _ => exact g2
      | own l' zs =>
        obtain ⟨e1, e2, us, e3, e4⟩ := g2
        exact ⟨e1, e2, us, by rw [upd_ne (own_ne x.nd hi q ne).symm]; exact e3, e4⟩
      | bag b =>
        obtain ⟨e1, e2, e3⟩ := g2
        exact ⟨e1, e2, bl b (x.bm j b q) e3⟩
  · rcases set_get e with ⟨rfl, q⟩ | ⟨ne, q⟩
    · cases q
    · exact x.bm j b q
/-- an own list is own no more -/
theorem StAt.frz (x : StAt K C m S0 H0 r σ S H) {i : Nat} {l : Addr} {xs : List PyData} (hi : r[i]? = some (some (.own l xs))) : ∃ S', StAt K C m S0 H0 (r.set i (some (.tl xs))) σ S' H ∧ Same S S' := by
  have hm := own_mem hi
  have hl0 := x.fr l hm
  obtain ⟨w, hw, rfl, hS, vs, hv, hd⟩ := x.sl i _ hi
  have sub := owns_set_sub (x := some (.tl xs)) rfl r i
  have sm : Same S (upd S l (.lst vs)) := fun a o e => by
    rw [upd_ne (ne_of_none e hS)]
    exact e
  have hin : TlAt K (upd S l (.lst vs)) (.ref l) xs := ⟨l, vs, rfl, upd_same, dpa_mono sm hd⟩
  refine ⟨upd S l (.lst vs), ⟨⟨x.stp.ss.trans sm, fun a o e => ?_, x.stp.hh, fun a e => ?_, x.stp.dom, x.stp.bag⟩, by rw [List.length_set]; exact x.len, fun j t e => ?_, fun l' hl => x.fr l' (sub.subset hl), x.nd.sublist sub, x.mb, fun j b e => ?_⟩, sm⟩
  · by_cases q : a = l
    · subst q
      rw [upd_same] at e
      cases e
      exact hv
    · rw [upd_ne q] at e
      exact x.stp.sh a o e
  · rw [upd_ne (fun q : a = l => e (by rw [q]; exact hl0))]
    exact x.stp.old a e
  · rcases set_get e with ⟨rfl, q⟩ | ⟨ne, q⟩
    · have q' : t = .tl xs := Option.some.inj q
      subst q'
      exact ⟨.ref l, hw, hin⟩
    · obtain ⟨u, g1, g2⟩ := x.sl j t q
      refine ⟨u, g1, ?_⟩
      cases t with
      | d _ => exact dp_mono sm g2
      | tl _ => exact tl_mono sm g2
      | clo _ => exact clo_mono sm g2
      | own l' zs =>
        obtain ⟨e1, e2, us, e3, e4⟩ := g2
        exact ⟨e1, by rw [upd_ne (own_ne x.nd hi q ne).symm]; exact e2, us, e3, dpa_mono sm e4⟩
      | bag b =>
        obtain ⟨e1, e2, e3⟩ := g2
        have : b ≠ l := fun z => x.mb b (x.bm j b q) (z ▸ hl0)
        exact ⟨e1, by rw [upd_ne this]; exact e2, e3⟩
  · rcases set_get e with ⟨rfl, q⟩ | ⟨ne, q⟩
    · cases q
    · exact x.bm j b q
/-- an object that no slot owns and that is not stable may change -/
theorem StAt.mut (x : StAt K C m S0 H0 r σ S H) {D : Addr} {o : HO} (h0 : H0 D = none) (hS : S D = none) (hm : m ≠ some D) (hD : D ∉ owns r) : StAt K C m S0 H0 r σ S (upd H D o) := by
  have n0 : ∀ a, H0 a ≠ none → a ≠ D := fun a h q => h (by rw [q]; exact h0)
  have bl : ∀ b, m = some b → BagOk H b → BagOk (upd H D o) b := fun b hb ⟨g, s, n, e, q⟩ => ⟨g, s, n, by rw [upd_ne (fun z : b = D => hm (by rw [hb, z]))]; exact e, q⟩
  refine ⟨⟨x.stp.ss, fun a u e => ?_, fun a u hma e => ?_, x.stp.old, fun a e => ?_, fun b hb e => bl b hb (x.stp.bag b hb e)⟩, x.len, fun j t e => ?_, x.fr, x.nd, x.mb, x.bm⟩
  · rw [upd_ne (ne_of_none e hS)]
    exact x.stp.sh a u e
  · rw [upd_ne (n0 a (by rw [e]; exact fun z => nomatch z))]
    exact x.stp.hh a u hma e
  · rw [upd_ne (n0 a e)]
    exact x.stp.dom a e
  · obtain ⟨u, g1, g2⟩ := x.sl j t e
    refine ⟨u, g1, ?_⟩
    cases t with
    | d _ => exact g2
    | tl _ => exact g2
    | clo _ => exact g2
    | own l' zs =>
      obtain ⟨e1, e2, us, e3, e4⟩ := g2
      exact ⟨e1, e2, us, by rw [upd_ne (fun q : l' = D => hD (by rw [← q]; exact own_mem e))]; exact e3, e4⟩
    | bag b =>
      obtain ⟨e1, e2, e3⟩ := g2
      exact ⟨e1, e2, bl b (x.bm j b e) e3⟩
theorem StAt.own_some (x : StAt K C m S0 H0 r σ S H) {l : Addr} (h : l ∈ owns r) : H l ≠ none := by
  unfold owns at h
  obtain ⟨z, hz, e⟩ := List.mem_filterMap.mp h
  obtain ⟨i, hi⟩ := List.mem_iff_getElem?.mp hz
  cases z with
  | none => cases e
  | some s =>
    cases s with
    | own l' xs =>
      have e' : l' = l := Option.some.inj e
      subst e'
      obtain ⟨w, _, _, _, vs, hv, _⟩ := x.sl i _ hi
      rw [hv]
      exact fun z => nomatch z
    | d _ => cases e
    | tl _ => cases e
    | clo _ => cases e
    | bag _ => cases e
/-- what is new to H is new to the entry, is no slot's, is not the bag -/
theorem StAt.new (x : StAt K C m S0 H0 r σ S H) {D : Addr} (h : H D = none) : H0 D = none ∧ S D = none ∧ m ≠ some D ∧ D ∉ owns r := by
  have h0 : H0 D = none := by
    cases q : H0 D with
    | none => rfl
    | some o => exact absurd h (x.stp.dom D (by rw [q]; exact fun z => nomatch z))
  refine ⟨h0, ?_, fun e => x.mb D e h0, fun q => x.own_some q h⟩
  cases q : S D with
  | none => rfl
  | some o =>
    rw [x.stp.sh D o q] at h
    cases h
end
end RD

end
section
set_option linter.all false
set_option maxRecDepth 100000
set_option maxHeartbeats 4000000
/-! R2: what an expression, a test, arguments, a target, an iterator come to. -/
namespace RD
open PySem PySem.Spec PyProof.Rows L2

section
variable (K : PySem.W.Frag) (C : Addr) (m : Option Addr)
def EvX (te : TE) (r : Rho) (P : Sh → Prop) : Prop := ∀ (S0 H0 : Hp) (σ : L2.St) (S H : Hp), StAt K C m S0 H0 r σ S H →
  ∀ Q : VK, (∀ v s S' H', P s → Stp m S H S' H' → ShAt K C S' H' v s → Q v H') → te σ H Q
abbrev EvR (te : TE) (r : Rho) (s : Sh) : Prop := EvX K C m te r (fun z => z = s)
abbrev EvD (te : TE) (r : Rho) (x : PyData) : Prop := EvX K C m te r (fun z => z = .d x)
def EvT (tt : TT) (r : Rho) (P : Bool → Prop) : Prop := ∀ (S0 H0 : Hp) (σ : L2.St) (S H : Hp), StAt K C m S0 H0 r σ S H →
  ∀ Q : Bool → Hp → Prop, (∀ b S' H', P b → Stp m S H S' H' → Q b H') → tt σ H Q
abbrev EvB (tt : TT) (r : Rho) (b : Bool) : Prop := EvT K C m tt r (fun z => z = b)
def EvA (ta : TA) (r : Rho) (P : List Sh → Prop) : Prop := ∀ (S0 H0 : Hp) (σ : L2.St) (S H : Hp), StAt K C m S0 H0 r σ S H →
  ∀ Q : List V → Hp → Prop, (∀ vs ss S' H', P ss → Stp m S H S' H' → Paired (ShAt K C S' H') vs ss → Q vs H') → ta σ H Q
/-- a new list, nobody else's -/
def EvO (te : TE) (r : Rho) (P : List PyData → Prop) : Prop := ∀ (S0 H0 : Hp) (σ : L2.St) (S H : Hp), StAt K C m S0 H0 r σ S H →
  ∀ Q : VK, (∀ l vs xs S' H', P xs → H l = none → Stp m S H S' H' → S' l = none → H' l = some (.lst vs) → DpAll K S' vs xs → Q (.ref l) H') → te σ H Q
/-- two values under an operator -/
def RX (q : R2) (s1 s2 : Sh) (P : Sh → Prop) : Prop := ∀ (S H : Hp) (x y : V), Same S H → ShAt K C S H x s1 → ShAt K C S H y s2 →
  ∀ Q : VK, (∀ v s S' H', P s → Stp none S H S' H' → ShAt K C S' H' v s → Q v H') → q x y H Q
def RXA (q : List V → Hp → VK → Prop) (ss : List Sh) (P : Sh → Prop) : Prop := ∀ (S H : Hp) (vs : List V), Same S H → Paired (ShAt K C S H) vs ss →
  ∀ Q : VK, (∀ v s S' H', P s → Stp none S H S' H' → ShAt K C S' H' v s → Q v H') → q vs H Q
end

section
variable {K : PySem.W.Frag} {C : Addr} {m : Option Addr} {r : Rho} {ta tb te : TE} {t u : TT} {P P' : Sh → Prop} {s s1 s2 : Sh}
theorem EvX.imp (h : EvX K C m te r P) (k : ∀ s, P s → P' s) : EvX K C m te r P' := fun S0 H0 σ S H x Q q => h S0 H0 σ S H x Q fun v s S' H' p => q v s S' H' (k s p)
theorem EvX.is {s' : Sh} (h : EvX K C m te r (fun z => z = s)) (e : s = s') : EvX K C m te r (fun z => z = s') := e ▸ h
/-- constants, names -/
theorem er_c {v : V} {x : PyData} (h : ∀ S : Hp, Dp K S v x) : EvX K C m (tC v) r (fun z => z = .d x) := fun S0 H0 σ S H x Q q => q _ _ S H rfl (Stp.refl x.sh) (h S)
theorem er_int (i : Int) : EvX K C m (tC (.int i)) r (fun z => z = .d (.int i)) := er_c fun _ => .int i
theorem er_str (i : Str) : EvX K C m (tC (.str i)) r (fun z => z = .d (.str i)) := er_c fun _ => .str i
theorem er_bl (i : Bool) : EvX K C m (tC (.bl i)) r (fun z => z = .d (.bool i)) := er_c fun _ => .bl i
theorem er_non : EvX K C m (tC .non) r (fun z => z = .d .none) := er_c fun _ => .non
theorem er_var {i : Nat} (h : r[i]? = some (some s)) (hs : s.im = true) : EvX K C m (tVar i) r (fun z => z = s) := fun S0 H0 σ S H x Q q => by
  obtain ⟨v, h1, h2⟩ := x.sl i s h
  exact ⟨v, h1, q v s S H rfl (Stp.refl x.sh) h2⟩
/-- a tracked list as data -/
theorem er_tl {xs : List PyData} (h : EvX K C m te r (fun z => z = .tl xs)) : EvX K C m te r (fun z => z = .d (.list xs)) := fun S0 H0 σ S H x Q q =>
  h S0 H0 σ S H x Q fun v s S' H' e st hv => by
    subst e
    exact q v _ S' H' rfl st (tl_dp hv)
theorem er_varL {i : Nat} {xs : List PyData} (h : r[i]? = some (some (.tl xs))) : EvX K C m (tVar i) r (fun z => z = .d (.list xs)) := er_tl (er_var h rfl)
theorem er_op {q : R2} (ha : EvX K C m ta r (fun z => z = s1)) (hb : EvX K C m tb r (fun z => z = s2)) (hr : RX K C q s1 s2 P) (h1 : s1.im = true := by rfl) : EvX K C m (tOp q ta tb) r P := fun S0 H0 σ S H x Q k =>
  ha S0 H0 σ S H x _ fun v w S1 H1 e st1 hv => by
    subst e
    have x1 := x.step st1
    refine hb S0 H0 σ S1 H1 x1 _ fun v2 w2 S2 H2 e st2 hv2 => ?_
    subst e
    exact hr S2 H2 v v2 (x1.step st2).sh (sh_im st2 h1 hv) hv2 Q fun v3 s3 S3 H3 p st3 h3 => k v3 s3 S3 H3 p (st1.trans (st2.trans st3.wide)) h3
/-- .. of draws -/
theorem er_opX {q : R2} {P1 P2 : Sh → Prop} (ha : EvX K C m ta r P1) (hb : EvX K C m tb r P2) (h1 : ∀ s, P1 s → s.im = true) (hr : ∀ s1 s2, P1 s1 → P2 s2 → RX K C q s1 s2 P) : EvX K C m (tOp q ta tb) r P := fun S0 H0 σ S H x Q k =>
  ha S0 H0 σ S H x _ fun v w S1 H1 e st1 hv => by
    have x1 := x.step st1
    refine hb S0 H0 σ S1 H1 x1 _ fun v2 w2 S2 H2 e2 st2 hv2 => ?_
    exact hr w w2 e e2 S2 H2 v v2 (x1.step st2).sh (sh_im st2 (h1 w e) hv) hv2 Q fun v3 s3 S3 H3 p st3 h3 => k v3 s3 S3 H3 p (st1.trans (st2.trans st3.wide)) h3
theorem er_un {q : V → Hp → VK → Prop} (ha : EvX K C m ta r (fun z => z = s1)) (hr : ∀ (S H : Hp) (x : V), Same S H → ShAt K C S H x s1 → ∀ Q : VK, (∀ v s S' H', P s → Stp none S H S' H' → ShAt K C S' H' v s → Q v H') → q x H Q) : EvX K C m (tUn q ta) r P := fun S0 H0 σ S H x Q k =>
  ha S0 H0 σ S H x _ fun v w S1 H1 e st1 hv => by
    subst e
    have x1 := x.step st1
    exact hr S1 H1 v x1.sh hv Q fun v3 s3 S3 H3 p st3 h3 => k v3 s3 S3 H3 p (st1.trans st3.wide) h3
theorem er_neg {i : Int} (ha : EvX K C m ta r (fun z => z = .d (.int i))) : EvX K C m (tUn (rU fun i => .int (-i)) ta) r (fun z => z = .d (.int (-i))) :=
  er_un ha fun S H x hs hx Q q => by
    cases hx
    exact ⟨i, rfl, q _ _ S H rfl (Stp.refl hs) (.int _)⟩
/-- arguments -/
theorem ea_nil : EvA K C m tNil r (fun z => z = []) := fun S0 H0 σ S H x Q q => q _ _ S H rfl (Stp.refl x.sh) .nil
theorem paired_step {S H S1 H1 : Hp} (a : Stp m S H S1 H1) : ∀ {vs : List V} {ss : List Sh}, (∀ s ∈ ss, s.im = true) → Paired (ShAt K C S H) vs ss → Paired (ShAt K C S1 H1) vs ss
  | _, _, _, .nil => .nil
  | _, _, hi, .cons h t => .cons (sh_im a (hi _ List.mem_cons_self) h) (paired_step a (fun s hs => hi s (List.mem_cons_of_mem _ hs)) t)
theorem ea_cons {tr : TA} {ss : List Sh} (ha : EvX K C m ta r (fun z => z = s)) (hr : EvA K C m tr r (fun z => z = ss)) (hi : s.im = true := by rfl) : EvA K C m (tCons ta tr) r (fun z => z = s :: ss) := fun S0 H0 σ S H x Q q =>
  ha S0 H0 σ S H x _ fun v w S1 H1 e st1 hv => by
    subst e
    have x1 := x.step st1
    refine hr S0 H0 σ S1 H1 x1 _ fun vs ws S2 H2 e2 st2 hvs => ?_
    subst e2
    exact q _ _ S2 H2 rfl (st1.trans st2) (.cons (sh_im st2 hi hv) hvs)
theorem ea_consX {tr : TA} {P1 : Sh → Prop} {P2 : Sh → List Sh → Prop} {R : List Sh → Prop} (ha : EvX K C m ta r P1) (h1 : ∀ s, P1 s → s.im = true) (hr : ∀ s, P1 s → EvA K C m tr r (P2 s)) (k : ∀ s ss, P1 s → P2 s ss → R (s :: ss)) : EvA K C m (tCons ta tr) r R := fun S0 H0 σ S H x Q q =>
  ha S0 H0 σ S H x _ fun v w S1 H1 e st1 hv => by
    have x1 := x.step st1
    refine hr w e S0 H0 σ S1 H1 x1 _ fun vs ws S2 H2 e2 st2 hvs => ?_
    exact q _ _ S2 H2 (k w ws e e2) (st1.trans st2) (.cons (sh_im st2 (h1 w e) hv) hvs)
/-- all of them data -/
def dsOf (xs : List PyData) : List Sh := xs.map Sh.d
theorem paired_d {S H : Hp} : ∀ {vs : List V} {xs : List PyData}, Paired (ShAt K C S H) vs (dsOf xs) → DpAll K S vs xs
  | _, [], .nil => .nil
  | _, x :: xs, .cons h t => .cons h (paired_d t)
theorem sz100 {n : Nat} (h : n ≤ 100000) : n ≤ sizeLine := Nat.le_trans h (by decide)
theorem sz_lt {n : Nat} (h : n < 100000) : n < sizeLine := Nat.lt_of_lt_of_le h (by decide)
theorem er_tup {tA : TA} {xs : List PyData} (h : EvA K C m tA r (fun z => z = dsOf xs)) (hl : xs.length ≤ 100000 := by decide) : EvX K C m (tTup tA) r (fun z => z = .d (.tuple xs)) := fun S0 H0 σ S H x Q q =>
  h S0 H0 σ S H x _ fun vs ws S1 H1 e st1 hv => by
    subst e
    have hd := paired_d hv
    refine ⟨sz100 (by rw [dpa_len hd]; exact hl), fun p hp => ?_⟩
    have st2 : Stp m S1 H1 (upd S1 p (.tup vs)) (upd H1 p (.tup vs)) := Stp.new st1.sh hp
    exact q _ _ _ _ rfl (st1.trans st2) (.tup (.inl (.inl upd_same)) (dpa_mono st2.ss hd))
theorem er_tupX {tA : TA} {R : List PyData → Prop} (h : EvA K C m tA r (fun z => ∃ xs, z = dsOf xs ∧ R xs ∧ xs.length ≤ 100000)) : EvX K C m (tTup tA) r (fun z => ∃ xs, z = .d (.tuple xs) ∧ R xs) := fun S0 H0 σ S H x Q q =>
  h S0 H0 σ S H x _ fun vs ws S1 H1 e st1 hv => by
    obtain ⟨xs, rfl, hR, hl⟩ := e
    have hd := paired_d hv
    refine ⟨sz100 (by rw [dpa_len hd]; exact hl), fun p hp => ?_⟩
    have st2 : Stp m S1 H1 (upd S1 p (.tup vs)) (upd H1 p (.tup vs)) := Stp.new st1.sh hp
    exact q _ _ _ _ ⟨xs, rfl, hR⟩ (st1.trans st2) (.tup (.inl (.inl upd_same)) (dpa_mono st2.ss hd))
/-- a written list, new -/
theorem eo_lst {tA : TA} {R : List PyData → Prop} (h : EvA K C m tA r (fun z => ∃ xs, z = dsOf xs ∧ R xs ∧ xs.length ≤ 100000)) : EvO K C m (tLst tA) r R := fun S0 H0 σ S H x Q q =>
  h S0 H0 σ S H x _ fun vs ws S1 H1 e st1 hv => by
    obtain ⟨xs, rfl, hR, hl⟩ := e
    have hd := paired_d hv
    refine ⟨sz100 (by rw [dpa_len hd]; exact hl), fun p hp => ?_⟩
    have st2 : Stp m S1 H1 S1 (upd H1 p (.lst vs)) := Stp.lay st1.sh hp
    have hn : H p = none := (show H p = none from by
      cases e : H p with
      | none => rfl
      | some o => exact absurd hp (st1.dom p (by rw [e]; exact fun z => nomatch z)))
    exact q p vs xs S1 _ hR hn (st1.trans st2) (by
      cases e : S1 p with
      | none => rfl
      | some o =>
        have := st1.sh p o e
        rw [hp] at this
        cases this) upd_same hd
theorem eo_lst1 {tA : TA} {xs : List PyData} (h : EvA K C m tA r (fun z => z = dsOf xs)) (hl : xs.length ≤ 100000 := by decide) : EvO K C m (tLst tA) r (fun z => z = xs) :=
  eo_lst fun S0 H0 σ S H x Q q => h S0 H0 σ S H x Q fun vs ss S' H' e => q vs ss S' H' ⟨xs, e, rfl, hl⟩
theorem EvO.imp {R R' : List PyData → Prop} (h : EvO K C m te r R) (k : ∀ xs, R xs → R' xs) : EvO K C m te r R' := fun S0 H0 σ S H x Q q => h S0 H0 σ S H x Q fun l vs xs S' H' p => q l vs xs S' H' (k xs p)
/-- a new list as a stable one -/
theorem er_own {R : List PyData → Prop} (h : EvO K C m te r R) : EvX K C m te r (fun z => ∃ xs, z = .tl xs ∧ R xs) := fun S0 H0 σ S H x Q q =>
  h S0 H0 σ S H x Q fun l vs xs S1 H1 p hn st hs hh hd => by
    have f := st.freeze hn hh
    have sm : Same S1 (upd S1 l (.lst vs)) := fun a o e => by
      rw [upd_ne (ne_of_none e hs)]
      exact e
    exact q _ _ _ _ ⟨xs, rfl, p⟩ f ⟨l, vs, rfl, upd_same, dpa_mono sm hd⟩
theorem er_own1 {xs : List PyData} (h : EvO K C m te r (fun z => z = xs)) : EvX K C m te r (fun z => z = .tl xs) := (er_own h).imp fun s ⟨ys, e1, e2⟩ => by rw [e1, e2]
theorem er_ownD {xs : List PyData} (h : EvO K C m te r (fun z => z = xs)) : EvX K C m te r (fun z => z = .d (.list xs)) := er_tl (er_own1 h)
theorem er_lst {tA : TA} {xs : List PyData} (h : EvA K C m tA r (fun z => z = dsOf xs)) (hl : xs.length ≤ 100000 := by decide) : EvX K C m (tLst tA) r (fun z => z = .d (.list xs)) := er_ownD (eo_lst1 h hl)

/-! tests -/
theorem EvT.imp {P P' : Bool → Prop} (h : EvT K C m t r P) (k : ∀ s, P s → P' s) : EvT K C m t r P' := fun S0 H0 σ S H x Q q => h S0 H0 σ S H x Q fun v S' H' p => q v S' H' (k v p)
theorem et_val {b : Bool} (h : EvX K C m te r (fun z => z = .d (.bool b))) : EvT K C m (tTest te) r (fun z => z = b) := fun S0 H0 σ S H x Q q =>
  h S0 H0 σ S H x _ fun v w S1 H1 e st1 hv => by
    subst e
    cases hv
    exact ⟨b, rfl, q b S1 H1 rfl st1⟩
theorem et_B {b : Bool} (h : EvX K C m te r (fun z => z = .d (.bool b))) : EvT K C m (tB te) r (fun z => z = b) := et_val h
theorem et_is {a b : Bool} (h : EvT K C m t r (fun z => z = a)) (e : a = b) : EvT K C m t r (fun z => z = b) := e ▸ h
theorem et_and {a b : Bool} (h1 : EvT K C m t r (fun z => z = a)) (h2 : a = true → EvT K C m u r (fun z => z = b)) : EvT K C m (tAnd t u) r (fun z => z = (a && b)) := fun S0 H0 σ S H x Q q =>
  h1 S0 H0 σ S H x _ fun c S1 H1 e st1 => by
    subst e
    cases c with
    | true =>
      show u σ H1 Q
      exact h2 rfl S0 H0 σ S1 H1 (x.step st1) Q fun c2 S2 H2 e2 st2 => q c2 S2 H2 e2 (st1.trans st2)
    | false => exact q false S1 H1 rfl st1
theorem et_or {a b : Bool} (h1 : EvT K C m t r (fun z => z = a)) (h2 : a = false → EvT K C m u r (fun z => z = b)) : EvT K C m (tOr t u) r (fun z => z = (a || b)) := fun S0 H0 σ S H x Q q =>
  h1 S0 H0 σ S H x _ fun c S1 H1 e st1 => by
    subst e
    cases c with
    | false =>
      show u σ H1 Q
      exact h2 rfl S0 H0 σ S1 H1 (x.step st1) Q fun c2 S2 H2 e2 st2 => q c2 S2 H2 e2 (st1.trans st2)
    | true => exact q true S1 H1 rfl st1
theorem et_orX {P1 P2 : Bool → Prop} (h1 : EvT K C m t r P1) (h2 : EvT K C m u r P2) : EvT K C m (tOr t u) r (fun _ => True) := fun S0 H0 σ S H x Q q =>
  h1 S0 H0 σ S H x _ fun c S1 H1 e st1 => by
    cases c with
    | false =>
      show u σ H1 Q
      exact h2 S0 H0 σ S1 H1 (x.step st1) Q fun c2 S2 H2 e2 st2 => q c2 S2 H2 trivial (st1.trans st2)
    | true => exact q true S1 H1 trivial st1
theorem et_not {a : Bool} (h1 : EvT K C m t r (fun z => z = a)) : EvT K C m (tNot t) r (fun z => z = !a) := fun S0 H0 σ S H x Q q =>
  h1 S0 H0 σ S H x _ fun c S1 H1 e st1 => by
    subst e
    exact q _ S1 H1 rfl st1
theorem er_andV {a b : Bool} (h1 : EvX K C m ta r (fun z => z = .d (.bool a))) (h2 : a = true → EvX K C m tb r (fun z => z = .d (.bool b))) : EvX K C m (tAndV ta tb) r (fun z => z = .d (.bool (a && b))) := fun S0 H0 σ S H x Q q =>
  h1 S0 H0 σ S H x _ fun v w S1 H1 e st1 hv => by
    subst e
    cases hv
    refine ⟨a, rfl, ?_⟩
    cases a with
    | true =>
      show tb σ H1 Q
      exact h2 rfl S0 H0 σ S1 H1 (x.step st1) Q fun v2 w2 S2 H2 e2 st2 h => q v2 w2 S2 H2 e2 (st1.trans st2) h
    | false =>
      show Q (.bl false) H1
      exact q _ _ S1 H1 rfl st1 (.bl false)
theorem er_orV {a b : Bool} (h1 : EvX K C m ta r (fun z => z = .d (.bool a))) (h2 : a = false → EvX K C m tb r (fun z => z = .d (.bool b))) : EvX K C m (tOrV ta tb) r (fun z => z = .d (.bool (a || b))) := fun S0 H0 σ S H x Q q =>
  h1 S0 H0 σ S H x _ fun v w S1 H1 e st1 hv => by
    subst e
    cases hv
    refine ⟨a, rfl, ?_⟩
    cases a with
    | false =>
      show tb σ H1 Q
      exact h2 rfl S0 H0 σ S1 H1 (x.step st1) Q fun v2 w2 S2 H2 e2 st2 h => q v2 w2 S2 H2 e2 (st1.trans st2) h
    | true =>
      show Q (.bl true) H1
      exact q _ _ S1 H1 rfl st1 (.bl true)
theorem er_notV {a : Bool} (h1 : EvX K C m ta r (fun z => z = .d (.bool a))) : EvX K C m (tNotV ta) r (fun z => z = .d (.bool (!a))) := fun S0 H0 σ S H x Q q =>
  h1 S0 H0 σ S H x _ fun v w S1 H1 e st1 hv => by
    subst e
    cases hv
    exact ⟨a, rfl, q _ _ S1 H1 rfl st1 (.bl _)⟩
theorem er_if {b : Bool} (h : EvT K C m t r (fun z => z = b)) (h1 : b = true → EvX K C m ta r P) (h2 : b = false → EvX K C m tb r P) : EvX K C m (tIf t ta tb) r P := fun S0 H0 σ S H x Q q =>
  h S0 H0 σ S H x _ fun c S1 H1 e st1 => by
    subst e
    cases c with
    | true =>
      show ta σ H1 Q
      exact h1 rfl S0 H0 σ S1 H1 (x.step st1) Q fun v w S2 H2 p st2 hv => q v w S2 H2 p (st1.trans st2) hv
    | false =>
      show tb σ H1 Q
      exact h2 rfl S0 H0 σ S1 H1 (x.step st1) Q fun v w S2 H2 p st2 hv => q v w S2 H2 p (st1.trans st2) hv

/-! built-ins by values -/
theorem er_cb {q : List V → Hp → VK → Prop} {tA : TA} {ss : List Sh} (h : EvA K C m tA r (fun z => z = ss)) (hr : RXA K C q ss P) : EvX K C m (tCB q tA) r P := fun S0 H0 σ S H x Q k =>
  h S0 H0 σ S H x _ fun vs ws S1 H1 e st1 hv => by
    subst e
    exact hr S1 H1 vs st1.sh hv Q fun v3 s3 S3 H3 p st3 h3 => k v3 s3 S3 H3 p (st1.trans st3.wide) h3
theorem er_cbX {q : List V → Hp → VK → Prop} {tA : TA} {PA : List Sh → Prop} (h : EvA K C m tA r PA) (hr : ∀ ss, PA ss → RXA K C q ss P) : EvX K C m (tCB q tA) r P := fun S0 H0 σ S H x Q k =>
  h S0 H0 σ S H x _ fun vs ws S1 H1 e st1 hv => hr ws e S1 H1 vs st1.sh hv Q fun v3 s3 S3 H3 p st3 h3 => k v3 s3 S3 H3 p (st1.trans st3.wide) h3
end

/-! ### operators on data -/
section
variable {K : PySem.W.Frag} {C : Addr}
theorem rx_I0 {g : Int → Int → V} {i j : Int} {x : PyData} (hg : ∀ S : Hp, Dp K S (g i j) x) : RX K C (rI0 g) (.d (.int i)) (.d (.int j)) (fun z => z = .d x) := fun S H v w hs h1 h2 Q q => by
  cases h1
  cases h2
  exact ⟨i, j, rfl, rfl, q _ _ S H rfl (Stp.refl hs) (hg S)⟩
theorem rx_I {c : Int → Int → Prop} {g : Int → Int → V} {i j : Int} {x : PyData} (hc : c i j) (hg : ∀ S : Hp, Dp K S (g i j) x) : RX K C (rI c g) (.d (.int i)) (.d (.int j)) (fun z => z = .d x) := fun S H v w hs h1 h2 Q q => by
  cases h1
  cases h2
  exact ⟨i, j, rfl, rfl, hc, q _ _ S H rfl (Stp.refl hs) (hg S)⟩
theorem rx_add {i j : Int} : RX K C (rI0 fun i j => .int (i + j)) (.d (.int i)) (.d (.int j)) (fun z => z = .d (.int (i + j))) := rx_I0 fun _ => .int _
theorem rx_sub {i j : Int} : RX K C (rI0 fun i j => .int (i - j)) (.d (.int i)) (.d (.int j)) (fun z => z = .d (.int (i - j))) := rx_I0 fun _ => .int _
theorem rx_lt {i j : Int} : RX K C (rI0 fun i j => .bl (decide (i < j))) (.d (.int i)) (.d (.int j)) (fun z => z = .d (.bool (decide (i < j)))) := rx_I0 fun _ => .bl _
theorem rx_le {i j : Int} : RX K C (rI0 fun i j => .bl (decide (i ≤ j))) (.d (.int i)) (.d (.int j)) (fun z => z = .d (.bool (decide (i ≤ j)))) := rx_I0 fun _ => .bl _
theorem rx_gt {i j : Int} : RX K C (rI0 fun i j => .bl (decide (j < i))) (.d (.int i)) (.d (.int j)) (fun z => z = .d (.bool (decide (j < i)))) := rx_I0 fun _ => .bl _
theorem rx_ge {i j : Int} : RX K C (rI0 fun i j => .bl (decide (j ≤ i))) (.d (.int i)) (.d (.int j)) (fun z => z = .d (.bool (decide (j ≤ i)))) := rx_I0 fun _ => .bl _
theorem rx_eqD {x y : PyData} (hx : SeqAt.shaped x = true) (hy : SeqAt.shaped y = true) : RX K C (rEqD K) (.d x) (.d y) (fun z => z = .d (.bool (PyData.eqv x y))) := fun S H v w hs h1 h2 Q q =>
  ⟨x, y, dp_mono hs h1, dp_mono hs h2, hx, hy, q _ _ S H rfl (Stp.refl hs) (.bl _)⟩
theorem rx_neD {x y : PyData} (hx : SeqAt.shaped x = true) (hy : SeqAt.shaped y = true) : RX K C (rNeD K) (.d x) (.d y) (fun z => z = .d (.bool (!PyData.eqv x y))) := fun S H v w hs h1 h2 Q q =>
  ⟨x, y, dp_mono hs h1, dp_mono hs h2, hx, hy, q _ _ S H rfl (Stp.refl hs) (.bl _)⟩
def isNoneD : PyData → Bool
  | .none => true
  | _ => false
theorem non_iff {S : Hp} {v : V} {x : PyData} (h : Dp K S v x) : decide (v = V.non) = isNoneD x := by
  cases h <;> simp [isNoneD]
theorem rx_isN {x : PyData} : RX K C (fun x y H Q => y = V.non ∧ Q (.bl (decide (x = .non))) H) (.d x) (.d .none) (fun z => z = .d (.bool (isNoneD x))) := fun S H v w hs h1 h2 Q q => by
  cases h2
  refine ⟨rfl, ?_⟩
  rw [non_iff h1]
  exact q _ _ S H rfl (Stp.refl hs) (.bl _)
theorem rx_notN {x : PyData} : RX K C (fun x y H Q => y = V.non ∧ Q (.bl (!decide (x = .non))) H) (.d x) (.d .none) (fun z => z = .d (.bool (!isNoneD x))) := fun S H v w hs h1 h2 Q q => by
  cases h2
  refine ⟨rfl, ?_⟩
  rw [non_iff h1]
  exact q _ _ S H rfl (Stp.refl hs) (.bl _)
/-- is, is not of bools -/
theorem rx_isB {a b : Bool} : RX K C rIsB (.d (.bool a)) (.d (.bool b)) (fun z => z = .d (.bool (decide (a = b)))) := fun S H v w hs h1 h2 Q q => by
  cases h1
  cases h2
  exact ⟨a, b, rfl, rfl, q _ _ S H rfl (Stp.refl hs) (.bl _)⟩
theorem rx_notB {a b : Bool} : RX K C rNotB (.d (.bool a)) (.d (.bool b)) (fun z => z = .d (.bool (!decide (a = b)))) := fun S H v w hs h1 h2 Q q => by
  cases h1
  cases h2
  exact ⟨a, b, rfl, rfl, q _ _ S H rfl (Stp.refl hs) (.bl _)⟩
theorem atI_dp {S : Hp} {vs : List V} {ds : List PyData} {i : Int} {x : PyData} (h : DpAll K S vs ds) (e : atI ds i = some x) : ∃ v, atI vs i = some v ∧ Dp K S v x := by
  unfold atI at e ⊢
  rw [dpa_len h]
  cases q : ixN ds.length i with
  | none =>
    rw [q] at e
    cases e
  | some j =>
    rw [q] at e
    obtain ⟨v, h1, h2⟩ := dpa_get h e
    exact ⟨v, h1, h2⟩
theorem rx_ixT {ds : List PyData} {i : Int} {x : PyData} (e : atI ds i = some x) : RX K C (rIx K) (.d (.tuple ds)) (.d (.int i)) (fun z => z = .d x) := fun S H v w hs h1 h2 Q q => by
  cases h2
  cases h1 with
  | tup hq ha =>
    obtain ⟨u, e1, e2⟩ := atI_dp ha e
    exact .inr (.inl ⟨_, _, i, u, rfl, rfl, same_t hs hq, e1, q _ _ S H rfl (Stp.refl hs) e2⟩)
theorem rx_ixL {ds : List PyData} {i : Int} {x : PyData} (e : atI ds i = some x) : RX K C (rIx K) (.d (.list ds)) (.d (.int i)) (fun z => z = .d x) := fun S H v w hs h1 h2 Q q => by
  cases h2
  cases h1 with
  | lst hq ha =>
    obtain ⟨u, e1, e2⟩ := atI_dp ha e
    exact .inl ⟨_, _, i, u, rfl, rfl, hs.seq hq, e1, q _ _ S H rfl (Stp.refl hs) e2⟩
/-- x in [..]: data of any depth -/
theorem rx_inD {x : PyData} {ds : List PyData} (hx : SeqAt.shaped x = true) (hd : SeqAt.shaped (.list ds) = true) : RX K C (rInD K) (.d x) (.d (.list ds)) (fun z => z = .d (.bool (ds.any fun y => PyData.eqv y x))) := fun S H v w hs h1 h2 Q q =>
  ⟨x, ds, dp_mono hs h1, dp_mono hs h2, hx, hd, q _ _ S H rfl (Stp.refl hs) (.bl _)⟩
theorem rx_niD {x : PyData} {ds : List PyData} (hx : SeqAt.shaped x = true) (hd : SeqAt.shaped (.list ds) = true) : RX K C (rNotInD K) (.d x) (.d (.list ds)) (fun z => z = .d (.bool (!ds.any fun y => PyData.eqv y x))) := fun S H v w hs h1 h2 Q q =>
  ⟨x, ds, dp_mono hs h1, dp_mono hs h2, hx, hd, q _ _ S H rfl (Stp.refl hs) (.bl _)⟩
/-- a text in a tuple of texts -/
theorem strs_V {S : Hp} : ∀ {vs : List V} {zs : List Str}, DpAll K S vs (zs.map PyData.str) → vs = zs.map V.str
  | _, [], .nil => rfl
  | _, z :: zs, .cons h t => by
    cases h
    rw [List.map_cons, strs_V t]
theorem inV_strs (x : Str) : ∀ zs : List Str, inV (.str x) (zs.map V.str) = zs.any (fun z => decide (z = x))
  | [] => rfl
  | z :: zs => by
    have ih := inV_strs x zs
    unfold inV at ih ⊢
    rw [List.map_cons, List.any_cons, List.any_cons, ih]
    congr 1
theorem flat_strs : ∀ zs : List Str, (zs.map V.str).all flatV = true
  | [] => rfl
  | z :: zs => by
    rw [List.map_cons, List.all_cons, flat_strs zs]
    rfl
theorem rx_inT {x : Str} {zs : List Str} : RX K C (rIn K false) (.d (.str x)) (.d (.tuple (zs.map PyData.str))) (fun z => z = .d (.bool (zs.any fun z => decide (z = x)))) := fun S H v w hs h1 h2 Q q => by
  cases h1
  cases h2 with
  | tup hq ha =>
    have e := strs_V ha
    subst e
    refine ⟨_, _, rfl, .inr (same_t hs hq), rfl, flat_strs zs, ?_⟩
    show Q (.bl (if false = true then !inV (.str x) (zs.map V.str) else inV (.str x) (zs.map V.str))) H
    rw [if_neg Bool.false_ne_true, inV_strs]
    exact q _ _ S H rfl (Stp.refl hs) (.bl _)
/-- len -/
theorem rxa_lenL {ds : List PyData} : RXA K C (fun xs H Q => ∃ p ys, xs = [V.ref p] ∧ (SqL K H p ys ∨ SqT K H p ys) ∧ Q (.int ys.length) H) [.d (.list ds)] (fun z => z = .d (.int ds.length)) := fun S H vs hs hv Q q => by
  cases hv with
  | cons h t =>
    cases t
    cases h with
    | lst hq ha =>
      refine ⟨_, _, rfl, .inl (hs.seq hq), ?_⟩
      rw [dpa_len ha]
      exact q _ _ S H rfl (Stp.refl hs) (.int _)
theorem rxa_lenT {ds : List PyData} : RXA K C (fun xs H Q => ∃ p ys, xs = [V.ref p] ∧ (SqL K H p ys ∨ SqT K H p ys) ∧ Q (.int ys.length) H) [.d (.tuple ds)] (fun z => z = .d (.int ds.length)) := fun S H vs hs hv Q q => by
  cases hv with
  | cons h t =>
    cases t
    cases h with
    | tup hq ha =>
      refine ⟨_, _, rfl, .inr (same_t hs hq), ?_⟩
      rw [dpa_len ha]
      exact q _ _ S H rfl (Stp.refl hs) (.int _)
/-- tuple(a list) -/
theorem rxa_tupL {ds : List PyData} : RXA K C (fun xs H Q => ∃ p ys, xs = [V.ref p] ∧ ((SqL K H p ys ∧ ∀ l, H l = none → Q (.ref l) (upd H l (.tup ys))) ∨ (SqT K H p ys ∧ Q (.ref p) H))) [.d (.list ds)] (fun z => z = .d (.tuple ds)) := fun S H vs hs hv Q q => by
  cases hv with
  | cons h t =>
    cases t
    cases h with
    | @lst a xs _ hq ha =>
      refine ⟨_, _, rfl, .inl ⟨hs.seq hq, fun l hl => ?_⟩⟩
      have st : Stp none S H (upd S l (.tup xs)) (upd H l (.tup xs)) := Stp.new hs hl
      exact q _ _ _ _ rfl st (.tup (.inl (.inl upd_same)) (dpa_mono st.ss ha))
/-- any, all -/
theorem rxa_any {bs : List Bool} : RXA K C (rAny K) [.d (.list (bs.map PyData.bool))] (fun z => z = .d (.bool (bs.any id))) := fun S H vs hs hv Q q => by
  cases hv with
  | cons h t =>
    cases t
    cases h with
    | lst hq ha =>
      have e := dpa_bls ha
      subst e
      exact ⟨_, bs, rfl, hs.seq hq, q _ _ S H rfl (Stp.refl hs) (.bl _)⟩
theorem rxa_all {bs : List Bool} : RXA K C (rAll K) [.d (.list (bs.map PyData.bool))] (fun z => z = .d (.bool (bs.all id))) := fun S H vs hs hv Q q => by
  cases hv with
  | cons h t =>
    cases t
    cases h with
    | lst hq ha =>
      have e := dpa_bls ha
      subst e
      exact ⟨_, bs, rfl, hs.seq hq, q _ _ S H rfl (Stp.refl hs) (.bl _)⟩
/-- int(a whole number), int(a bool) -/
def rInt1 : List V → Hp → VK → Prop := fun xs H Q => (∃ i, xs = [V.int i] ∧ Q (.int i) H) ∨ ∃ k, xs = [V.bl k] ∧ Q (.int (if k then 1 else 0)) H
theorem rxa_int {i : Int} : RXA K C rInt1 [.d (.int i)] (fun z => z = .d (.int i)) := fun S H vs hs hv Q q => by
  cases hv with
  | cons h t =>
    cases t
    cases h
    exact .inl ⟨i, rfl, q _ _ S H rfl (Stp.refl hs) (.int _)⟩
theorem rxa_intB {b : Bool} : RXA K C rInt1 [.d (.bool b)] (fun z => z = .d (.int (if b then 1 else 0))) := fun S H vs hs hv Q q => by
  cases hv with
  | cons h t =>
    cases t
    cases h
    exact .inr ⟨b, rfl, q _ _ S H rfl (Stp.refl hs) (.int _)⟩
/-- isinstance -/
def tyD : PyData → String
  | .none => "NoneType"
  | .bool _ => "bool"
  | .int _ => "int"
  | .str _ => "str"
  | .list _ => "list"
  | .tuple _ => "tuple"
  | .dict _ => "dict"
theorem tyX_of {S H : Hp} {v : V} {x : PyData} (hs : Same S H) (h : Dp K S v x) : TyX K H v (.type (tyD x)) := by
  cases h with
  | non => exact .base .non
  | bl b => exact .base (.bl b)
  | int i => exact .base (.int i)
  | str z => exact .base (.str z)
  | lst hq _ =>
    rcases hs.seq hq with (e | ⟨o, e⟩) | ⟨o, its, n, e, hc, _⟩
    · exact .base (.lst e)
    · exact .base (.frz e)
    · exact .kList e hc
  | tup hq _ =>
    rcases same_t hs hq with (e | ⟨o, e⟩) | ⟨o, its, n, e, hc, _⟩
    · exact .base (.tup e)
    · exact .fTuple e
    · exact .kTuple e hc
theorem rxa_isi {x : PyData} {n : String} {b : Bool} (hk : kitB (tyD x) n = some b) : ∀ (S H : Hp) (vs : List V), Same S H → (∃ v, vs = [v, .ty n] ∧ Dp K S v x) → ∀ Q : VK, Q (.bl b) H → rIsi K vs H Q := fun S H vs hs ⟨v, e, h⟩ Q q =>
  ⟨v, .ty n, .type (tyD x), .type n, b, e, .ty n, tyX_of hs h, kit_ty hk, q⟩
end
section
variable {K : PySem.W.Frag} {C : Addr} {m : Option Addr} {r : Rho} {ta te : TE}
theorem er_isi {x : PyData} {n : String} {b : Bool} (h : EvX K C m te r (fun z => z = .d x)) (hk : kitB (tyD x) n = some b) : EvX K C m (tCB (rIsi K) (tCons te (tCons (tC (.ty n)) tNil))) r (fun z => z = .d (.bool b)) := fun S0 H0 σ S H x Q q =>
  h S0 H0 σ S H x _ fun v w S1 H1 e st1 hv => by
    subst e
    exact rxa_isi (x := _) hk S1 H1 [v, .ty n] st1.sh ⟨v, rfl, hv⟩ Q (q _ _ S1 H1 rfl st1 (.bl _))
end
end RD

end
section
set_option linter.all false
set_option maxRecDepth 100000
set_option maxHeartbeats 4000000
/-! R3: slices, sums of lists, statements, loops, comprehensions, calls. -/
namespace RD
open PySem PySem.Spec PyProof.Rows L2

section
variable {K : PySem.W.Frag} {C : Addr} {m : Option Addr} {r : Rho} {ta tb te : TE} {t u : TT} {P P' : Sh → Prop} {s s1 s2 : Sh}
theorem none_S {S H : Hp} (hs : Same S H) {p : Addr} (h : H p = none) : S p = none := by
  cases e : S p with
  | none => rfl
  | some o =>
    have := hs p o e
    rw [h] at this
    cases this
theorem none_of {S H S1 H1 : Hp} (st : Stp m S H S1 H1) {p : Addr} (h : H1 p = none) : H p = none := by
  cases e : H p with
  | none => rfl
  | some o => exact absurd h (st.dom p (by rw [e]; exact fun z => nomatch z))
/-! slices -/
def cutD (xs : List PyData) (lo hi : Option Int) : List PyData := (xs.drop (HT.sIx xs.length 0 lo)).take (HT.sIx xs.length xs.length hi - HT.sIx xs.length 0 lo)
theorem cut_dpa {S : Hp} {vs : List V} {ds : List PyData} (lo hi : Option Int) (h : DpAll K S vs ds) : DpAll K S (cutV vs lo hi) (cutD ds lo hi) := by
  unfold cutV cutD
  rw [dpa_len h]
  exact dpa_take _ (dpa_drop _ h)
def EvP (K : PySem.W.Frag) (C : Addr) (m : Option Addr) (to : TO) (r : Rho) (o : Option Int) : Prop := ∀ (S0 H0 : Hp) (σ : L2.St) (S H : Hp), StAt K C m S0 H0 r σ S H →
  ∀ Q : Option Int → Hp → Prop, (∀ S' H', Stp m S H S' H' → Q o H') → to σ H Q
theorem ep_none : EvP K C m tNoPart r none := fun S0 H0 σ S H x Q q => q S H (Stp.refl x.sh)
theorem ep_some {i : Int} (h : EvX K C m te r (fun z => z = .d (.int i))) : EvP K C m (tPart te) r (some i) := fun S0 H0 σ S H x Q q =>
  h S0 H0 σ S H x _ fun v w S1 H1 e st1 hv => by
    subst e
    cases hv
    exact ⟨i, rfl, q S1 H1 st1⟩
/-- a list's slice: a new list -/
theorem eo_sl {tl th : TO} {ds : List PyData} {lo hi : Option Int} (h : EvX K C m te r (fun z => z = .d (.list ds))) (h1 : EvP K C m tl r lo) (h2 : EvP K C m th r hi) : EvO K C m (tSl (rSlL K) te tl th) r (fun z => z = cutD ds lo hi) := fun S0 H0 σ S H x Q q =>
  h S0 H0 σ S H x _ fun v w S1 H1 e st1 hv => by
    subst e
    refine h1 S0 H0 σ S1 H1 (x.step st1) _ fun S2 H2 st2 => h2 S0 H0 σ S2 H2 ((x.step st1).step st2) _ fun S3 H3 st3 => ?_
    have hv3 := dp_mono st3.ss (dp_mono st2.ss hv)
    have st := st1.trans (st2.trans st3)
    cases hv3 with
    | @lst a vs _ hq ha =>
      refine ⟨a, vs, rfl, st3.sh.seq hq, fun p hp => ?_⟩
      exact q p (cutV vs lo hi) _ S3 _ rfl (none_of st hp) (st.trans (Stp.lay st.sh hp)) (none_S st.sh hp) upd_same (cut_dpa lo hi ha)
/-- a tuple's -/
theorem er_slT {tl th : TO} {ds : List PyData} {lo hi : Option Int} (h : EvX K C m te r (fun z => z = .d (.tuple ds))) (h1 : EvP K C m tl r lo) (h2 : EvP K C m th r hi) : EvX K C m (tSl (rSlA K) te tl th) r (fun z => z = .d (.tuple (cutD ds lo hi))) := fun S0 H0 σ S H x Q q =>
  h S0 H0 σ S H x _ fun v w S1 H1 e st1 hv => by
    subst e
    refine h1 S0 H0 σ S1 H1 (x.step st1) _ fun S2 H2 st2 => h2 S0 H0 σ S2 H2 ((x.step st1).step st2) _ fun S3 H3 st3 => ?_
    have hv3 := dp_mono st3.ss (dp_mono st2.ss hv)
    have st := st1.trans (st2.trans st3)
    cases hv3 with
    | @tup a vs _ hq ha =>
      refine ⟨a, vs, rfl, same_t st3.sh hq, fun hw => ?_, fun hw p hp => ?_⟩
      · refine q (.ref a) _ S3 H3 rfl st ?_
        have e : cutD ds lo hi = ds := by
          unfold cutD
          rw [← dpa_len ha, hw.1, hw.2, List.drop_zero, Nat.sub_zero, dpa_len ha, List.take_length]
        rw [e]
        exact .tup hq ha
      · have sn : Stp m S3 H3 (upd S3 p (.tup (cutV vs lo hi))) (upd H3 p (.tup (cutV vs lo hi))) := Stp.new st.sh hp
        exact q (.ref p) _ _ _ rfl (st.trans sn) (.tup (.inl (.inl upd_same)) (dpa_mono sn.ss (cut_dpa lo hi ha)))
/-! list + list, list * int: new lists -/
theorem eo_cat {xs ys : List PyData} (ha : EvX K C m ta r (fun z => z = .tl xs)) (hb : EvX K C m tb r (fun z => z = .tl ys)) (hl : xs.length + ys.length ≤ 100000) : EvO K C m (tOp rCat ta tb) r (fun z => z = xs ++ ys) := fun S0 H0 σ S H x Q q =>
  ha S0 H0 σ S H x _ fun v w S1 H1 e st1 hv => by
    subst e
    refine hb S0 H0 σ S1 H1 (x.step st1) _ fun v2 w2 S2 H2 e2 st2 hv2 => ?_
    subst e2
    obtain ⟨l, vs, e0, e1, e2⟩ := tl_mono st2.ss hv
    obtain ⟨l', vs', g0, g1, g2⟩ := hv2
    have st := st1.trans st2
    refine ⟨l, l', vs, vs', e0, g0, st2.sh _ _ e1, st2.sh _ _ g1, sz100 (by rw [dpa_len e2, dpa_len g2]; exact hl), fun p hp => ?_⟩
    exact q p _ _ S2 _ rfl (none_of st hp) (st.trans (Stp.lay st.sh hp)) (none_S st.sh hp) upd_same (dpa_append e2 g2)
theorem dpa_rep {S : Hp} {vs : List V} {ds : List PyData} (h : DpAll K S vs ds) : ∀ k : Nat, DpAll K S (List.replicate k vs).flatten (List.replicate k ds).flatten
  | 0 => .nil
  | k + 1 => by
    rw [List.replicate_succ, List.replicate_succ, List.flatten_cons, List.flatten_cons]
    exact dpa_append h (dpa_rep h k)
end

/-! ### statements -/
structure Out where
  nx : Rho → Prop := fun _ => False
  rt : Sh → Prop := fun _ => False
  bk : Rho → Prop := fun _ => False
  ct : Rho → Prop := fun _ => False
section
variable (K : PySem.W.Frag) (C : Addr) (m : Option Addr)
def DS (t : TS) (r : Rho) (O : Out) : Prop := ∀ (S0 H0 : Hp) (σ : L2.St) (S H : Hp) (D : Ends), StAt K C m S0 H0 r σ S H →
  (∀ r' σ' S' H', O.nx r' → StAt K C m S0 H0 r' σ' S' H' → D.nx σ' H') → (∀ v s S' H', O.rt s → Stp m S0 H0 S' H' → ShAt K C S' H' v s → D.rt v H') →
  (∀ r' σ' S' H', O.bk r' → StAt K C m S0 H0 r' σ' S' H' → D.bk σ' H') → (∀ r' σ' S' H', O.ct r' → StAt K C m S0 H0 r' σ' S' H' → D.ct σ' H') → t D σ H
/-- a target; js: the slots that it stores -/
def GT (g : TG) (x : Sh) (r r' : Rho) (js : List Nat) : Prop := ∀ (S0 H0 : Hp) (σ : L2.St) (S H : Hp) (v : V), StAt K C m S0 H0 r σ S H → ShAt K C S H v x →
  ∀ Q : L2.St → Hp → Prop, (∀ σ', StAt K C m S0 H0 r' σ' S H → (∀ vs, (∀ j ∈ js, j ∈ vs) → wipe σ' vs = wipe σ vs) → Q σ' H) → g v σ H Q
def GTs (g : TGs) (xs : List Sh) (r r' : Rho) (js : List Nat) : Prop := ∀ (S0 H0 : Hp) (σ : L2.St) (S H : Hp) (vs : List V), StAt K C m S0 H0 r σ S H → Paired (ShAt K C S H) vs xs →
  ∀ Q : L2.St → Hp → Prop, (∀ σ', StAt K C m S0 H0 r' σ' S H → (∀ vs, (∀ j ∈ js, j ∈ vs) → wipe σ' vs = wipe σ vs) → Q σ' H) → g vs σ H Q
/-- an iterator that hands out these data, one after another -/
def Walks (J : It) (S1 : Hp) (ds : List PyData) : Prop :=
  (∀ (i : Nat) S' H', Same S1 S' → Same S' H' → i < ds.length → J.go i H') ∧ (∀ S' H', Same S1 S' → Same S' H' → J.stop ds.length H') ∧
  ∀ (i : Nat) d S' H', ds[i]? = some d → Same S1 S' → Same S' H' → ∀ x H'', J.yld i H' x H'' → ∃ S'', Stp none S' H' S'' H'' ∧ Dp K S'' x d
def ItX (wi : TI) (r : Rho) (ds : List PyData) : Prop := ∀ (S0 H0 : Hp) (σ : L2.St) (S H : Hp), StAt K C m S0 H0 r σ S H →
  ∀ R : It → Hp → Prop, (∀ J S1 H1, Stp m S H S1 H1 → Walks K J S1 ds → R J H1) → wi σ H R
end
theorem wipe_set {σ : L2.St} {j : Nat} {y : Option V} : ∀ {vs : List Nat}, j ∈ vs → wipe (σ.set j y) vs = wipe σ vs
  | [], h => by cases h
  | v :: vs, h => by
    unfold wipe
    by_cases hj : j ∈ vs
    · rw [wipe_set hj]
    · have e : j = v := (List.mem_cons.mp h).resolve_right hj
      subst e
      have q : ∀ ws : List Nat, j ∉ ws → wipe (σ.set j y) ws = (wipe σ ws).set j y := by
        intro ws
        induction ws with
        | nil => intro _; rfl
        | cons w ws ih =>
          intro hw
          unfold wipe
          rw [ih fun z => hw (List.mem_cons_of_mem _ z)]
          exact List.set_comm _ _ (fun z => hw (z ▸ List.mem_cons_self))
      rw [q vs hj, List.set_set]
section
variable {K : PySem.W.Frag} {C : Addr} {m : Option Addr} {r r' r2 : Rho} {ta tb te : TE} {t u : TT} {P P' : Sh → Prop} {s s1 s2 x : Sh} {O : Out} {tu tw tz : TS} {g : TG}
theorem gt_name {i : Nat} (hi : x.im = true) (hb : ∀ b, x = .bag b → m = some b) : GT K C m (gName i) x r (r.set i (some x)) [i] := fun S0 H0 σ S H v st hv Q q =>
  q _ (st.put hi hb hv) fun vs h => wipe_set (h i List.mem_cons_self)
theorem gt_nameD {i : Nat} {y : PyData} : GT K C m (gName i) (.d y) r (r.set i (some (.d y))) [i] := gt_name rfl fun _ e => nomatch e
theorem gts_nil : GTs K C m gNil [] r r [] := fun S0 H0 σ S H vs st hv Q q => by
  cases hv
  exact ⟨rfl, q σ st fun _ _ => rfl⟩
theorem gts_cons {gs : TGs} {xs : List Sh} {js ks : List Nat} (h1 : GT K C m g x r r' js) (h2 : GTs K C m gs xs r' r2 ks) : GTs K C m (gCons g gs) (x :: xs) r r2 (js ++ ks) := fun S0 H0 σ S H vs st hv Q q => by
  cases hv with
  | cons hx ht =>
    refine ⟨_, _, rfl, h1 S0 H0 σ S H _ st hx _ fun σ1 st1 w1 => h2 S0 H0 σ1 S H _ st1 ht _ fun σ2 st2 w2 => q σ2 st2 fun vs h => ?_⟩
    rw [w2 vs fun j hj => h j (List.mem_append_right _ hj), w1 vs fun j hj => h j (List.mem_append_left _ hj)]
theorem dpa_paired {S H : Hp} : ∀ {vs : List V} {xs : List PyData}, DpAll K S vs xs → Paired (ShAt K C S H) vs (dsOf xs)
  | _, [], .nil => .nil
  | _, x :: xs, .cons h t => .cons h (dpa_paired t)
theorem gt_tup {gs : TGs} {xs : List PyData} {js : List Nat} {n : Nat} (h : GTs K C m gs (dsOf xs) r r' js) (hn : xs.length = n := by rfl) : GT K C m (gTup K n gs) (.d (.tuple xs)) r r' js := fun S0 H0 σ S H v st hv Q q => by
  have hv : Dp K S v (.tuple xs) := hv
  cases hv with
  | tup hq ha => exact ⟨_, _, rfl, same_t st.sh hq, by rw [dpa_len ha, hn], h S0 H0 σ S H _ st (dpa_paired ha) Q q⟩

theorem ds_imp {O' : Out} (h : DS K C m tu r O) (h1 : ∀ r, O.nx r → O'.nx r) (h2 : ∀ s, O.rt s → O'.rt s) (h3 : ∀ r, O.bk r → O'.bk r) (h4 : ∀ r, O.ct r → O'.ct r) : DS K C m tu r O' := fun S0 H0 σ S H D st k1 k2 k3 k4 =>
  h S0 H0 σ S H D st (fun r' σ' S' H' p => k1 r' σ' S' H' (h1 r' p)) (fun v s S' H' p => k2 v s S' H' (h2 s p)) (fun r' σ' S' H' p => k3 r' σ' S' H' (h3 r' p)) fun r' σ' S' H' p => k4 r' σ' S' H' (h4 r' p)
theorem ds_seq (N : Rho → Prop) (h : DS K C m tu r { O with nx := N }) (k : ∀ r', N r' → DS K C m tz r' O) : DS K C m (tSeq tu tz) r O := fun S0 H0 σ S H D st k1 k2 k3 k4 =>
  h S0 H0 σ S H { D with nx := tz D } st (fun r' σ' S' H' n st' => k r' n S0 H0 σ' S' H' D st' k1 k2 k3 k4) k2 k3 k4
theorem ds_next (h : O.nx r) : DS K C m tNext r O := fun S0 H0 σ S H D st k1 k2 k3 k4 => k1 r σ S H h st
theorem ds_break (h : O.bk r) : DS K C m tBreak r O := fun S0 H0 σ S H D st k1 k2 k3 k4 => k3 r σ S H h st
/-- what stands behind a statement that leaves is not asked -/
theorem ds_out (h : DS K C m tu r { O with nx := fun _ => False }) : DS K C m (tSeq tu tz) r O := ds_seq (fun _ => False) h fun _ n => n.elim
theorem ds_ret (h : EvX K C m te r P) (k : ∀ s, P s → O.rt s) : DS K C m (tRet te) r O := fun S0 H0 σ S H D st k1 k2 k3 k4 =>
  h S0 H0 σ S H st _ fun v s S1 H1 p st1 hv => k2 v s S1 H1 (k s p) (st.stp.trans st1) hv
theorem ds_retO {R : List PyData → Prop} (h : EvO K C m te r R) (k : ∀ xs, R xs → O.rt (.tl xs)) : DS K C m (tRet te) r O := ds_ret (er_own h) fun s ⟨xs, e, q⟩ => by rw [e]; exact k xs q
/-- an own list handed back -/
theorem ds_retOwn {i : Nat} {l : Addr} {xs : List PyData} (h : r[i]? = some (some (.own l xs))) (k : O.rt (.tl xs)) : DS K C m (tRet (tVar i)) r O := fun S0 H0 σ S H D st k1 k2 k3 k4 => by
  obtain ⟨S', st', _⟩ := st.frz h
  obtain ⟨v, h1, h2⟩ := st'.sl i (.tl xs) (by rw [List.getElem?_set_self (List.getElem?_eq_some_iff.mp h).1])
  exact ⟨v, h1, k2 v _ S' H k st'.stp h2⟩
theorem ds_setX {i : Nat} (h : EvX K C m te r P) (hi : ∀ s, P s → s.im = true ∧ ∀ b, s ≠ .bag b) (k : ∀ s, P s → DS K C m tz (r.set i (some s)) O) : DS K C m (tSeq (tAsg te (gName i)) tz) r O := fun S0 H0 σ S H D st k1 k2 k3 k4 =>
  h S0 H0 σ S H st _ fun v s S1 H1 p st1 hv => k s p S0 H0 _ S1 H1 D ((st.step st1).put (hi s p).1 (fun b e => absurd e ((hi s p).2 b)) hv) k1 k2 k3 k4
theorem ds_set {i : Nat} {y : PyData} (h : EvX K C m te r (fun z => z = .d y)) (k : DS K C m tz (r.set i (some (.d y))) O) : DS K C m (tSeq (tAsg te (gName i)) tz) r O :=
  ds_setX h (fun s e => by rw [e]; exact ⟨rfl, fun _ z => nomatch z⟩) fun s e => by rw [e]; exact k
theorem ds_setTl {i : Nat} {y : List PyData} (h : EvX K C m te r (fun z => z = .tl y)) (k : DS K C m tz (r.set i (some (.tl y))) O) : DS K C m (tSeq (tAsg te (gName i)) tz) r O :=
  ds_setX h (fun s e => by rw [e]; exact ⟨rfl, fun _ z => nomatch z⟩) fun s e => by rw [e]; exact k
theorem ds_setClo {i : Nat} {y : Clo} (h : EvX K C m te r (fun z => z = .clo y)) (k : DS K C m tz (r.set i (some (.clo y))) O) : DS K C m (tSeq (tAsg te (gName i)) tz) r O :=
  ds_setX h (fun s e => by rw [e]; exact ⟨rfl, fun _ z => nomatch z⟩) fun s e => by rw [e]; exact k
theorem ds_setOwn {i : Nat} {R : List PyData → Prop} (h : EvO K C m te r R) (k : ∀ l xs, R xs → DS K C m tz (r.set i (some (.own l xs))) O) : DS K C m (tSeq (tAsg te (gName i)) tz) r O := fun S0 H0 σ S H D st k1 k2 k3 k4 =>
  h S0 H0 σ S H st _ fun l vs xs S1 H1 p hn st1 h1 h2 h3 => k l xs p S0 H0 _ S1 H1 D (st.putOwn st1 hn h1 h2 h3) k1 k2 k3 k4
theorem ds_freeze {i : Nat} {l : Addr} {xs : List PyData} (h : r[i]? = some (some (.own l xs))) (k : DS K C m tu (r.set i (some (.tl xs))) O) : DS K C m tu r O := fun S0 H0 σ S H D st k1 k2 k3 k4 => by
  obtain ⟨S', st', _⟩ := st.frz h
  exact k S0 H0 σ S' H D st' k1 k2 k3 k4
/-- target = data -/
theorem ds_asg {js : List Nat} {y : PyData} (h : EvX K C m te r (fun z => z = .d y)) (hg : GT K C m g (.d y) r r' js) (k : DS K C m tz r' O) : DS K C m (tSeq (tAsg te g) tz) r O := fun S0 H0 σ S H D st k1 k2 k3 k4 =>
  h S0 H0 σ S H st _ fun v s S1 H1 e st1 hv => by
    subst e
    exact hg S0 H0 σ S1 H1 v (st.step st1) hv _ fun σ' st' _ => k S0 H0 σ' S1 H1 D st' k1 k2 k3 k4
theorem ds_if {b : Bool} (h : EvT K C m t r (fun z => z = b)) (h1 : b = true → DS K C m (tSeq tu tz) r O) (h2 : b = false → DS K C m (tSeq tw tz) r O) : DS K C m (tSeq (tIfS t tu tw) tz) r O := fun S0 H0 σ S H D st k1 k2 k3 k4 =>
  h S0 H0 σ S H st _ fun c S1 H1 e st1 => by
    subst e
    cases c with
    | true => exact h1 rfl S0 H0 σ S1 H1 D (st.step st1) k1 k2 k3 k4
    | false => exact h2 rfl S0 H0 σ S1 H1 D (st.step st1) k1 k2 k3 k4
theorem ds_if1 {b : Bool} (h : EvT K C m t r (fun z => z = b)) (h1 : b = true → DS K C m tu r O) (h2 : b = false → DS K C m tw r O) : DS K C m (tIfS t tu tw) r O := fun S0 H0 σ S H D st k1 k2 k3 k4 =>
  h S0 H0 σ S H st _ fun c S1 H1 e st1 => by
    subst e
    cases c with
    | true => exact h1 rfl S0 H0 σ S1 H1 D (st.step st1) k1 k2 k3 k4
    | false => exact h2 rfl S0 H0 σ S1 H1 D (st.step st1) k1 k2 k3 k4
/-- no else -/
theorem ds_skip (h : DS K C m tz r O) : DS K C m (tSeq tNext tz) r O := h
/-- if c: return ..; the rest -/
theorem ds_ifr {b : Bool} (h : EvT K C m t r (fun z => z = b)) (h1 : b = true → DS K C m tu r { O with nx := fun _ => False }) (h2 : b = false → DS K C m tz r O) : DS K C m (tSeq (tIfS t tu tNext) tz) r O :=
  ds_if h (fun e => ds_out (h1 e)) fun e => ds_skip (h2 e)
theorem ds_drop (h : EvX K C m te r P) (k : DS K C m tz r O) : DS K C m (tSeq (tDrop te) tz) r O := fun S0 H0 σ S H D st k1 k2 k3 k4 =>
  h S0 H0 σ S H st _ fun v s S1 H1 p st1 hv => k S0 H0 σ S1 H1 D (st.step st1) k1 k2 k3 k4
/-- xs.append(e), xs an own list -/
theorem ds_appX {i : Nat} {l : Addr} {xs : List PyData} {R : PyData → Prop} (hi : r[i]? = some (some (.own l xs))) (h : EvX K C m te r (fun z => ∃ y, z = .d y ∧ R y)) (hz : xs.length < 100000) (k : ∀ y, R y → O.nx (r.set i (some (.own l (xs ++ [y]))))) :
    DS K C m (tDrop (tBM K "list" rAppend (tVar i) (tCons te tNil))) r O := fun S0 H0 σ S H D st k1 k2 k3 k4 => by
  obtain ⟨v, h1, rfl, h3, vs, h4, h5⟩ := st.sl i _ hi
  refine ⟨.ref l, h1, .inl ⟨rfl, vs, .inl (.inl h4)⟩, h S0 H0 σ S H st _ fun v s S1 H1 e st1 hv => ?_⟩
  obtain ⟨y, rfl, hy⟩ := e
  have st' := st.step st1
  obtain ⟨v', g1, g2, g3, ws, g4, g5⟩ := st'.sl i _ hi
  refine ⟨l, ws, v, rfl, rfl, g4, sz_lt (by rw [dpa_len g5]; exact hz), ?_⟩
  exact k1 _ σ S1 _ (k y hy) (st'.chg hi (dpa_append g5 (.cons hv .nil)))
theorem ds_app {i : Nat} {l : Addr} {xs : List PyData} {y : PyData} (hi : r[i]? = some (some (.own l xs))) (h : EvX K C m te r (fun z => z = .d y)) (hz : xs.length < 100000) (k : O.nx (r.set i (some (.own l (xs ++ [y]))))) :
    DS K C m (tDrop (tBM K "list" rAppend (tVar i) (tCons te tNil))) r O := ds_appX hi (R := fun z => z = y) (h.imp fun s e => ⟨y, e, rfl⟩) hz fun z e => by rw [e]; exact k

/-! iterators -/
theorem it_list {ds : List PyData} {tl : TE} (h : EvX K C m tl r (fun z => z = .d (.list ds))) : ItX K C m (iList K tl) r ds := fun S0 H0 σ S H st R q =>
  h S0 H0 σ S H st _ fun v s S1 H1 e st1 hv => by
    subst e
    cases hv with
    | @lst a vs _ hq ha =>
      have ln := dpa_len ha
      refine ⟨a, rfl, ⟨vs, st1.sh.seq hq⟩, q _ S1 H1 st1 ⟨fun i S' H' e1 e2 hi => ?_, fun S' H' e1 e2 => ⟨vs, e2.seq (e1.seq hq), by rw [ln]; exact Nat.le_refl _⟩, fun i d S' H' hd e1 e2 x H'' hy => ?_⟩⟩
      · exact ⟨vs, vs[i]'(by rw [ln]; exact hi), e2.seq (e1.seq hq), List.getElem?_eq_getElem _⟩
      · obtain ⟨rfl, hx⟩ := hy
        obtain ⟨w, hw, hwd⟩ := dpa_get ha hd
        have ex : some w = some x := hw.symm.trans (hx vs (e2.seq (e1.seq hq)))
        cases ex
        exact ⟨S', Stp.refl e2, dp_mono e1 hwd⟩
theorem it_tup {ds : List PyData} {tl : TE} (h : EvX K C m tl r (fun z => z = .d (.tuple ds))) : ItX K C m (iTup K tl) r ds := fun S0 H0 σ S H st R q =>
  h S0 H0 σ S H st _ fun v s S1 H1 e st1 hv => by
    subst e
    cases hv with
    | @tup a vs _ hq ha =>
      have ln := dpa_len ha
      refine ⟨a, rfl, ⟨vs, same_t st1.sh hq⟩, q _ S1 H1 st1 ⟨fun i S' H' e1 e2 hi => ?_, fun S' H' e1 e2 => ⟨vs, same_t e2 (same_t e1 hq), by rw [ln]; exact Nat.le_refl _⟩, fun i d S' H' hd e1 e2 x H'' hy => ?_⟩⟩
      · exact ⟨vs, vs[i]'(by rw [ln]; exact hi), same_t e2 (same_t e1 hq), List.getElem?_eq_getElem _⟩
      · obtain ⟨rfl, hx⟩ := hy
        obtain ⟨w, hw, hwd⟩ := dpa_get ha hd
        have ex : some w = some x := hw.symm.trans (hx vs (same_t e2 (same_t e1 hq)))
        cases ex
        exact ⟨S', Stp.refl e2, dp_mono e1 hwd⟩
def rangeD (lo : Int) (n : Nat) : List PyData := (List.range n).map fun (i : Nat) => PyData.int (lo + (i : Int))
theorem walks_range {lo : Int} {n : Nat} {S1 : Hp} : Walks K (Itr lo n) S1 (rangeD lo n) := by
  have ln : (rangeD lo n).length = n := by unfold rangeD; rw [List.length_map, List.length_range]
  refine ⟨fun i S' H' e1 e2 hi => by rw [ln] at hi; exact hi, fun S' H' e1 e2 => by rw [ln]; exact Nat.le_refl n, fun i d S' H' hd e1 e2 x H'' hy => ?_⟩
  obtain ⟨rfl, rfl⟩ := hy
  unfold rangeD at hd
  rw [List.getElem?_map] at hd
  cases q : (List.range n)[i]? with
  | none =>
    rw [q] at hd
    cases hd
  | some j =>
    rw [q] at hd
    have ej : j = i := by
      obtain ⟨h1, h2⟩ := List.getElem?_eq_some_iff.mp q
      rw [← h2, List.getElem_range]
    subst ej
    cases hd
    exact ⟨S', Stp.refl e2, .int _⟩
theorem it_range1 {tA : TA} {n : Int} (h : EvA K C m tA r (fun z => z = dsOf [.int n])) (h1 : -1000000 ≤ n) (h2 : n ≤ 1000000) : ItX K C m (iRng1 tA) r (rangeD 0 n.toNat) := fun S0 H0 σ S H st R q =>
  h S0 H0 σ S H st _ fun vs ss S1 H1 e st1 hv => by
    subst e
    cases hv with
    | cons hx ht =>
      cases ht
      cases hx
      exact ⟨n, rfl, by omega, by omega, q _ S1 H1 st1 walks_range⟩
theorem it_range2 {tA : TA} {lo n : Int} (h : EvA K C m tA r (fun z => z = dsOf [.int lo, .int n])) (h1 : -1000000 ≤ n ∧ n ≤ 1000000 ∧ -1000000 ≤ lo ∧ lo ≤ 1000000) : ItX K C m (iRng2 tA) r (rangeD lo (n - lo).toNat) := fun S0 H0 σ S H st R q =>
  h S0 H0 σ S H st _ fun vs ss S1 H1 e st1 hv => by
    subst e
    cases hv with
    | cons hx ht =>
      cases ht with
      | cons hy hu =>
        cases hu
        cases hx
        cases hy
        exact ⟨lo, n, rfl, ⟨by omega, by omega, by omega, by omega⟩, q _ S1 H1 st1 walks_range⟩
/-- for .. -/
theorem ds_for {wi : TI} {ds : List PyData} (h : ItX K C m wi r ds) (Pv : Nat → Rho → Prop) (h0 : Pv 0 r)
    (hs : ∀ (i : Nat) d r', ds[i]? = some d → Pv i r' → ∃ r2 js, GT K C m g (.d d) r' r2 js ∧ DS K C m tu r2 { O with nx := Pv (i + 1), ct := Pv (i + 1), bk := fun r3 => DS K C m tz r3 O }) (hd : ∀ r', Pv ds.length r' → DS K C m tz r' O) : DS K C m (tSeq (tFor wi g tu) tz) r O := fun S0 H0 σ S H D st k1 k2 k3 k4 => by
  refine h S0 H0 σ S H st _ fun J S1 H1 st1 hw => ?_
  have x1 := st.step st1
  refine ⟨fun i n σ' H' => n = ds.length - i ∧ i ≤ ds.length ∧ ∃ r' S', Pv i r' ∧ StAt K C m S1 H0 r' σ' S' H', ⟨_, rfl, Nat.zero_le _, r, S1, h0, x1.rebase⟩, ?_⟩
  rintro i n σ' H' ⟨rfl, hi, r', S', hp, y⟩
  by_cases hlt : i < ds.length
  · obtain ⟨r2, js, hg, hb⟩ := hs i ds[i] r' (List.getElem?_eq_getElem hlt) hp
    refine .inr ⟨hw.1 i S' H' y.stp.ss y.stp.sh hlt, fun σ2 H2 => ∃ r3 S2, Pv (i + 1) r3 ∧ StAt K C m S1 H0 r3 σ2 S2 H2, fun σ2 H2 ⟨r3, S2, p3, y3⟩ => ⟨ds.length - (i + 1), by omega, rfl, hlt, r3, S2, p3, y3⟩, fun v H'' hy => ?_⟩
    obtain ⟨S'', sty, hdp⟩ := hw.2.2 i ds[i] S' H' (List.getElem?_eq_getElem hlt) y.stp.ss y.stp.sh v H'' hy
    refine hg S1 H0 σ' S'' H'' v (y.step sty.wide) hdp _ fun σ2 y2 _ => ?_
    refine hb S1 H0 σ2 S'' H'' _ y2 (fun r3 σ3 S3 H3 p3 y3 => ⟨r3, S3, p3, y3⟩) (fun v s S3 H3 p st3 hv => k2 v s S3 H3 p ?_ hv) (fun r3 σ3 S3 H3 p3 y3 => p3 S0 H0 σ3 S3 H3 D (x1.base y3) k1 k2 k3 k4) fun r3 σ3 S3 H3 p3 y3 => ⟨r3, S3, p3, y3⟩
    exact ⟨x1.stp.ss.trans st3.ss, st3.sh, st3.hh, fun a e => (st3.old a e).trans (x1.stp.old a e), st3.dom, st3.bag⟩
  · have e : i = ds.length := by omega
    subst e
    exact .inl ⟨hw.2.1 S' H' y.stp.ss y.stp.sh, hd r' hp S0 H0 σ' S' H' D (x1.base y) k1 k2 k3 k4⟩
/-- while .. -/
theorem ds_while (W : Nat → Rho → Prop) (n0 : Nat) (h0 : W n0 r) (hs : ∀ n r', W n r' → ∃ b : Bool, EvT K C m t r' (fun z => z = b) ∧ (b = true → DS K C m tu r' { O with nx := fun r2 => ∃ n', n' < n ∧ W n' r2, ct := fun r2 => ∃ n', n' < n ∧ W n' r2, bk := fun r3 => DS K C m tz r3 O }) ∧ (b = false → DS K C m tz r' O)) :
    DS K C m (tSeq (tWhile t tu) tz) r O := fun S0 H0 σ S H D st k1 k2 k3 k4 => by
  refine ⟨fun n σ' H' => ∃ r' S', W n r' ∧ StAt K C m S0 H0 r' σ' S' H', ⟨n0, r, S, h0, st⟩, ?_⟩
  rintro n σ' H' ⟨r', S', hw, y⟩
  obtain ⟨b, hb, h1, h2⟩ := hs n r' hw
  refine hb S0 H0 σ' S' H' y _ fun c S1 H1 e st1 => ?_
  subst e
  have y1 := y.step st1
  cases c with
  | true =>
    show ∃ N : L2.St → Hp → Prop, _ ∧ _
    refine ⟨fun σ2 H2 => ∃ n', n' < n ∧ ∃ r2 S2, W n' r2 ∧ StAt K C m S0 H0 r2 σ2 S2 H2, fun σ2 H2 q => q, ?_⟩
    exact h1 rfl S0 H0 σ' S1 H1 _ y1 (fun r3 σ3 S3 H3 ⟨n', l, p⟩ y3 => ⟨n', l, r3, S3, p, y3⟩) k2 (fun r3 σ3 S3 H3 p3 y3 => p3 S0 H0 σ3 S3 H3 D y3 k1 k2 k3 k4) fun r3 σ3 S3 H3 ⟨n', l, p⟩ y3 => ⟨n', l, r3, S3, p, y3⟩
  | false =>
    exact h2 rfl S0 H0 σ' S1 H1 D y1 k1 k2 k3 k4

/-! comprehensions -/
def wipeR (r : Rho) : List Nat → Rho
  | [] => r
  | v :: vs => (wipeR r vs).set v none
theorem StAt.wipe {S0 H0 S H : Hp} {σ : L2.St} (x : StAt K C m S0 H0 r σ S H) : ∀ vs : List Nat, StAt K C m S0 H0 (wipeR r vs) (wipe σ vs) S H
  | [] => x
  | v :: vs => (x.wipe vs).drop none
theorem wipe_wipe {σ : L2.St} : ∀ {vs ws : List Nat}, (∀ v ∈ vs, v ∈ ws) → L2.wipe (L2.wipe σ vs) ws = L2.wipe σ ws
  | [], ws, _ => rfl
  | v :: vs, ws, h => by
    rw [show L2.wipe σ (v :: vs) = (L2.wipe σ vs).set v none from rfl, wipe_set (h v List.mem_cons_self), wipe_wipe fun w hw => h w (List.mem_cons_of_mem _ hw)]
def givenD (ds : List PyData) (f : Nat → Bool) (v : Nat → PyData) (i : Nat) : List PyData := ((List.range i).filter f).map v
theorem givenD_yes {ds : List PyData} {i : Nat} {f : Nat → Bool} {v : Nat → PyData} (h : f i = true) : givenD ds f v (i + 1) = givenD ds f v i ++ [v i] := by
  unfold givenD
  rw [List.range_succ, List.filter_append, List.map_append, List.filter_cons, if_pos h] <;> rfl
theorem givenD_no {ds : List PyData} {i : Nat} {f : Nat → Bool} {v : Nat → PyData} (h : f i = false) : givenD ds f v (i + 1) = givenD ds f v i := by
  unfold givenD
  rw [List.range_succ, List.filter_append, List.map_append, List.filter_cons, if_neg (by rw [h]; decide)]
  show _ ++ [] = _
  rw [List.append_nil]
theorem Stp.mut {S H S1 H1 : Hp} (a : Stp m S H S1 H1) {D : Addr} {o : HO} (hn : H D = none) (hS : S1 D = none) (hm : m ≠ some D) : Stp m S H S1 (upd H1 D o) where
  ss := a.ss
  sh := fun b u e => by
    rw [upd_ne (ne_of_none e hS)]
    exact a.sh b u e
  hh := fun b u hb e => by
    rw [upd_ne (ne_of_none e hn)]
    exact a.hh b u hb e
  old := a.old
  dom := fun b e => by
    rw [upd_ne (fun q : b = D => e (by rw [q]; exact hn))]
    exact a.dom b e
  bag := fun b hb e => by
    obtain ⟨g, s, n, e1, e2⟩ := a.bag b hb e
    exact ⟨g, s, n, by rw [upd_ne (fun q : b = D => hm (by rw [hb, q]))]; exact e1, e2⟩
/-- the general form: A i acc says what the list may be so far -/
theorem eo_lc {wi : TI} {ds : List PyData} {vs : List Nat} (A : Nat → List PyData → Prop) (h : ItX K C m wi r ds) (h0 : A 0 []) (hz : ∀ i acc, A i acc → acc.length < 100000)
    (hs : ∀ (i : Nat) d acc, ds[i]? = some d → A i acc → ∃ r2 js, GT K C m g (.d d) (wipeR r vs) r2 js ∧ (∀ j ∈ js, j ∈ vs) ∧ EvT K C m t r2 (fun b => (b = true → EvX K C m te r2 (fun z => ∃ y, z = .d y ∧ A (i + 1) (acc ++ [y]))) ∧ (b = false → A (i + 1) acc))) :
    EvO K C m (tLc wi g t te vs) r (fun z => A ds.length z) := fun S0 H0 σ S H st Q q => by
  refine h S0 H0 σ S H st _ fun J S1 H1 st1 hw D hD => ?_
  have x1 := (st.step st1)
  obtain ⟨n0, nS, nm, nr⟩ := x1.new hD
  have nrw : D ∉ owns (wipeR r vs) := by
    have : ∀ ws : List Nat, (owns (wipeR r ws)).Sublist (owns r) := by
      intro ws
      induction ws with
      | nil => exact List.Sublist.refl _
      | cons w ws ih => exact (owns_set_sub (x := none) rfl (wipeR r ws) w).trans ih
    exact fun z => nr ((this vs).subset z)
  refine ⟨fun i n H' => n = ds.length - i ∧ i ≤ ds.length ∧ ∃ S' ws acc, A i acc ∧ StAt K C m S1 H0 (wipeR r vs) (L2.wipe σ vs) S' H' ∧ S' D = none ∧ H' D = some (.lst ws) ∧ DpAll K S' ws acc ∧ Stp m S1 H1 S' H',
    ⟨_, rfl, Nat.zero_le _, S1, [], [], h0, (x1.wipe vs).rebase.step (Stp.lay x1.sh hD), nS, upd_same, .nil, Stp.lay x1.sh hD⟩, ?_⟩
  rintro i n H' ⟨rfl, hi, S', ws, acc, hA, y, e1, e2, e3, e4⟩
  by_cases hlt : i < ds.length
  · obtain ⟨r2, js, hg, hj, ht⟩ := hs i ds[i] acc (List.getElem?_eq_getElem hlt) hA
    refine .inr ⟨hw.1 i S' H' y.stp.ss y.stp.sh hlt, fun H2 => ∃ S2 ws2 acc2, A (i + 1) acc2 ∧ StAt K C m S1 H0 (wipeR r vs) (L2.wipe σ vs) S2 H2 ∧ S2 D = none ∧ H2 D = some (.lst ws2) ∧ DpAll K S2 ws2 acc2 ∧ Stp m S1 H1 S2 H2, fun H2 p => ⟨ds.length - (i + 1), by omega, rfl, hlt, p⟩, fun v H'' hy => ?_⟩
    obtain ⟨S'', sty, hdp⟩ := hw.2.2 i ds[i] S' H' (List.getElem?_eq_getElem hlt) y.stp.ss y.stp.sh v H'' hy
    have y2 := y.step sty.wide
    have dn : H' D ≠ none := by rw [e2]; exact fun z => nomatch z
    refine hg S1 H0 _ S'' H'' v y2 hdp _ fun σ2 z2 hw2 => ⟨by rw [hw2 vs hj, wipe_wipe fun _ h => h], ?_⟩
    refine ht S1 H0 σ2 S'' H'' z2 _ fun b S3 H3 hb st3 => ?_
    have f3 : H3 D = some (.lst ws) := st3.hh D _ nm (sty.hh D _ (fun z => nomatch z) e2)
    have g3 : S3 D = none := (st3.old D (sty.dom D dn)).trans ((sty.old D dn).trans e1)
    cases b with
    | false => exact ⟨S3, ws, acc, hb.2 rfl, y2.step st3, g3, f3, dpa_mono st3.ss (dpa_mono sty.ss e3), e4.trans (sty.wide.trans st3)⟩
    | true =>
      show te σ2 H3 _
      refine hb.1 rfl S1 H0 σ2 S3 H3 (z2.step st3) _ fun w s S4 H4 hy st4 hv => ?_
      obtain ⟨yd, rfl, hA'⟩ := hy
      have f4 : H4 D = some (.lst ws) := st4.hh D _ nm f3
      have g4 : S4 D = none := (st4.old D (by rw [f3]; exact fun z => nomatch z)).trans g3
      have a4 := dpa_mono st4.ss (dpa_mono st3.ss (dpa_mono sty.ss e3))
      refine ⟨ws, f4, sz_lt (by rw [dpa_len a4]; exact hz i acc hA), S4, ws ++ [w], acc ++ [yd], hA', ((y2.step st3).step st4).mut n0 g4 nm nrw, g4, upd_same, dpa_append a4 (.cons hv .nil), (e4.trans (sty.wide.trans (st3.trans st4))).mut hD g4 nm⟩
  · have e : i = ds.length := by omega
    subst e
    exact .inl ⟨hw.2.1 S' H' y.stp.ss y.stp.sh, q D ws acc S' H' hA (none_of st1 hD) (st1.trans e4) e1 e2 e3⟩
/-- where each turn's answer is known -/
theorem eo_lcF {wi : TI} {ds : List PyData} {vs : List Nat} (f : Nat → Bool) (v : Nat → PyData) (h : ItX K C m wi r ds) (hz : ds.length < 100000)
    (hs : ∀ (i : Nat) d, ds[i]? = some d → ∃ r2 js, GT K C m g (.d d) (wipeR r vs) r2 js ∧ (∀ j ∈ js, j ∈ vs) ∧ EvT K C m t r2 (fun b => b = f i) ∧ (f i = true → EvX K C m te r2 (fun z => z = .d (v i)))) :
    EvO K C m (tLc wi g t te vs) r (fun z => z = givenD ds f v ds.length) := by
  refine eo_lc (fun i acc => i ≤ ds.length ∧ acc = givenD ds f v i) h ⟨Nat.zero_le _, rfl⟩ (fun i acc e => ?_) (fun i d acc hd e => ?_) |>.imp fun xs e => e.2
  · rw [e.2]
    unfold givenD
    have h1 := List.length_filter_le f (List.range i)
    rw [List.length_map]
    rw [List.length_range] at h1
    have := e.1
    omega
  · obtain ⟨r2, js, h1, h2, h3, h4⟩ := hs i d hd
    have hi := (List.getElem?_eq_some_iff.mp hd).1
    refine ⟨r2, js, h1, h2, h3.imp fun b hb => ⟨fun hb' => ?_, fun hb' => ?_⟩⟩
    · have hf : f i = true := by rw [← hb, hb']
      refine (h4 hf).imp fun z ez => ⟨v i, ez, hi, ?_⟩
      rw [givenD_yes hf, e.2]
    · have hf : f i = false := by rw [← hb, hb']
      exact ⟨hi, by rw [givenD_no hf, e.2]⟩
/-- all items, each by a function -/
theorem eo_lcM {wi : TI} {ds : List PyData} {vs : List Nat} (v : PyData → PyData) (h : ItX K C m wi r ds) (hz : ds.length < 100000)
    (hs : ∀ (i : Nat) d, ds[i]? = some d → ∃ r2 js, GT K C m g (.d d) (wipeR r vs) r2 js ∧ (∀ j ∈ js, j ∈ vs) ∧ EvX K C m te r2 (fun z => z = .d (v d))) :
    EvO K C m (tLc wi g tYes te vs) r (fun z => z = ds.map v) := by
  refine eo_lc (fun i acc => i ≤ ds.length ∧ acc = (ds.take i).map v) h ⟨Nat.zero_le _, rfl⟩ (fun i acc e => ?_) (fun i d acc hd e => ?_) |>.imp fun xs e => ?_
  · rw [e.2, List.length_map, List.length_take]
    omega
  · obtain ⟨r2, js, h1, h2, h4⟩ := hs i d hd
    have hi := (List.getElem?_eq_some_iff.mp hd).1
    refine ⟨r2, js, h1, h2, fun S0 H0 σ S H st Q q => q true S H ⟨fun _ => h4.imp fun z ez => ⟨v d, ez, hi, ?_⟩, fun z => nomatch z⟩ (Stp.refl st.sh)⟩
    rw [e.2, List.take_add_one, hd, List.map_append] <;> rfl
  · rw [e.2, List.take_length]
end

/-! ### promises of defs -/
section
variable (K : PySem.W.Frag) (C : Addr)
/-- a def's promise over data: from arguments of these shapes a result of this shape -/
def Pr {α : Type} (m : α → Option Addr) (pre : α → Prop) (args : α → List Sh) (res : α → Sh → Prop) : Sp := fun vs H Q _ => ∃ (a : α) (S : Hp), Same S H ∧ pre a ∧ Paired (ShAt K C S H) vs (args a) ∧
  ∀ v s S' H', res a s → Stp (m a) S H S' H' → ShAt K C S' H' v s → Q v H'
end
section
variable {K : PySem.W.Frag} {C : Addr} {m : Option Addr} {r r' r2 : Rho} {P : Sh → Prop} {α : Type} {mm : α → Option Addr} {pre : α → Prop} {args : α → List Sh} {res : α → Sh → Prop}
/-- the call of such a def -/
theorem er_call {tA : TA} {PA : List Sh → Prop} {E : XK} (h : EvA K C m tA r PA) (k : ∀ ss, PA ss → ∃ a, ss = args a ∧ pre a ∧ (mm a = none ∨ mm a = m) ∧ ∀ s, res a s → P s) : EvX K C m (tCall (Pr K C mm pre args res) [] E tA) r P := fun S0 H0 σ S H st Q q =>
  h S0 H0 σ S H st _ fun vs ss S1 H1 e st1 hv => by
    obtain ⟨a, rfl, hp, hm, hr⟩ := k ss e
    refine ⟨a, S1, st1.sh, hp, by rw [List.append_nil]; exact hv, fun v s S2 H2 hs st2 h2 => q v s S2 H2 (hr s hs) (st1.trans ?_) h2⟩
    rcases hm with e | e
    · rw [e] at st2
      exact st2.wide
    · rw [e] at st2
      exact st2
theorem er_call1 {tA : TA} {E : XK} (a : α) (h : EvA K C m tA r (fun z => z = args a)) (hp : pre a) (hr : ∀ s, res a s → P s) (hm : mm a = none ∨ mm a = m := by exact Or.inl rfl) : EvX K C m (tCall (Pr K C mm pre args res) [] E tA) r P :=
  er_call h fun ss e => ⟨a, e, hp, hm, hr⟩
/-- a method of a closing -/
theorem er_meth {nm : Str} {tA : TA} {ta : TE} {c : Clo} {ss : List Sh} {E : XK} (a : α) (ho : EvX K C m ta r (fun z => z = .clo c)) (h : EvA K C m tA r (fun z => z = ss)) (ha : .clo c :: ss = args a) (hp : pre a) (hr : ∀ s, res a s → P s) (hm : mm a = none := by rfl)
    (hl : (nm == ("elder" : Str)) = false := by decide +kernel) (hl2 : (nm == ("rows" : Str)) = false := by decide +kernel) : EvX K C m (tMeth C nm (Pr K C mm pre args res) [] E ta tA) r P := fun S0 H0 σ S H st Q q =>
  ho S0 H0 σ S H st _ fun v s S1 H1 e st1 hv => by
    subst e
    obtain ⟨p, dx, e, rr, rfl, h1, h2, h3⟩ := id hv
    refine ⟨p, dx, _, rfl, st1.sh _ _ h1, ?_, ?_⟩
    · show List.lookup nm [("elder", V.ref e), ("rows", V.ref rr)] = none
      simp only [List.lookup, hl, hl2]
    · refine h S0 H0 σ S1 H1 (st.step st1) _ fun vs ss2 S2 H2 e2 st2 hvs => ?_
      subst e2
      refine ⟨a, S2, st2.sh, hp, ?_, fun v s S3 H3 hs st3 h3 => q v s S3 H3 (hr s hs) (st1.trans (st2.trans ?_)) h3⟩
      · rw [List.append_nil, ← ha]
        exact .cons (clo_mono st2.ss hv) hvs
      · rw [hm] at st3
        exact st3.wide
theorem er_elder {ta : TE} {c : Clo} (cl : Cls K C) (na : NoAttr K C "elder") (ho : EvX K C m ta r (fun z => z = .clo c)) : EvX K C m (tFld K ta "elder") r (fun z => z = .d (.list (c.el.map natD))) := fun S0 H0 σ S H st Q q =>
  ho S0 H0 σ S H st _ fun v s S1 H1 e st1 hv => by
    subst e
    obtain ⟨p, dx, e, rr, rfl, h1, h2, h3⟩ := hv
    exact ⟨p, C, dx, _, .ref e, rfl, st1.sh _ _ h1, cl, na, rfl, q _ _ S1 H1 rfl st1 h2⟩
theorem er_rows {ta : TE} {c : Clo} (cl : Cls K C) (na : NoAttr K C "rows") (ho : EvX K C m ta r (fun z => z = .clo c)) : EvX K C m (tFld K ta "rows") r (fun z => z = .d (.list (c.rows.map rowD))) := fun S0 H0 σ S H st Q q =>
  ho S0 H0 σ S H st _ fun v s S1 H1 e st1 hv => by
    subst e
    obtain ⟨p, dx, e, rr, rfl, h1, h2, h3⟩ := hv
    exact ⟨p, C, dx, _, .ref rr, rfl, st1.sh _ _ h1, cl, na, rfl, q _ _ S1 H1 rfl st1 h3⟩
/-- the slots at a def's entry -/
def rho0 (N : List Str) (ss : List Sh) : Rho := ss.map some ++ List.replicate (N.length - ss.length) none
theorem paired_get {S H : Hp} : ∀ {vs : List V} {ss : List Sh} {i : Nat} {s : Sh}, Paired (ShAt K C S H) vs ss → ss[i]? = some s → ∃ v, vs[i]? = some v ∧ ShAt K C S H v s
  | _, _, _, _, .nil, e => by simp at e
  | _, _, 0, _, .cons h _, e => by
    simp at e
    subst e
    exact ⟨_, rfl, h⟩
  | _, _, i + 1, _, .cons _ t, e => by
    obtain ⟨v, h1, h2⟩ := paired_get (i := i) t (by simpa using e)
    exact ⟨v, by simpa using h1, h2⟩
theorem paired_len {S H : Hp} : ∀ {vs : List V} {ss : List Sh}, Paired (ShAt K C S H) vs ss → vs.length = ss.length
  | _, _, .nil => rfl
  | _, _, .cons _ t => by rw [List.length_cons, List.length_cons, paired_len t]
theorem owns_im : ∀ {ss : List Sh}, (∀ s ∈ ss, s.im = true) → owns (ss.map some) = []
  | [], _ => rfl
  | s :: ss, h => by
    have e : ownOf (some s) = none := by
      have := h s List.mem_cons_self
      cases s with
      | own l xs => cases this
      | d _ => rfl
      | tl _ => rfl
      | clo _ => rfl
      | bag _ => rfl
    have ih := owns_im fun x hx => h x (List.mem_cons_of_mem _ hx)
    unfold owns at ih ⊢
    rw [List.map_cons, List.filterMap_cons, e, ih]
theorem owns_rep (n : Nat) : owns (List.replicate n none) = [] := by
  unfold owns
  rw [List.filterMap_replicate_of_none rfl]
theorem stAt_start {N : List Str} {S H : Hp} {vs : List V} {ss : List Sh} (hs : Same S H) (h : Paired (ShAt K C S H) vs ss) (hi : ∀ s ∈ ss, s.im = true) (hb : ∀ b, .bag b ∈ ss → m = some b) (hm : ∀ b, m = some b → H b ≠ none) : StAt K C m S H (rho0 N ss) (L2.start N vs) S H := by
  have eo : owns (rho0 N ss) = [] := by
    unfold rho0 owns
    rw [List.filterMap_append]
    show owns (ss.map some) ++ owns (List.replicate _ none) = []
    rw [owns_im hi, owns_rep, List.append_nil]
  have get : ∀ (i : Nat) s, (rho0 N ss)[i]? = some (some s) → ss[i]? = some s := fun i s e => by
    unfold rho0 at e
    by_cases q : i < ss.length
    · rw [List.getElem?_append_left (by rw [List.length_map]; exact q), List.getElem?_map] at e
      cases z : ss[i]? with
      | none =>
        rw [z] at e
        cases e
      | some y =>
        rw [z] at e
        cases e
        rfl
    · rw [List.getElem?_append_right (by rw [List.length_map]; omega), List.getElem?_replicate] at e
      split at e <;> cases e
  refine ⟨Stp.refl hs, ?_, fun i s e => ?_, fun l hl => (by rw [eo] at hl; cases hl), (by rw [eo]; exact List.nodup_nil), hm, fun i b e => hb b (List.mem_of_getElem? (get i _ e))⟩
  · unfold L2.start rho0
    rw [List.length_append, List.length_append, List.length_map, List.length_map, List.length_replicate, List.length_replicate, paired_len h]
  · obtain ⟨v, h1, h2⟩ := paired_get h (get i s e)
    refine ⟨v, ?_, h2⟩
    unfold L2.start
    rw [List.getElem?_append_left (by rw [List.length_map]; exact (List.getElem?_eq_some_iff.mp h1).1), List.getElem?_map, h1] <;> rfl
end
section
variable {P : Program} {w : World} {K : PySem.W.Frag} {mg : Str → Option Value} {base : Heap} {C : Addr} {α : Type} {mm : α → Option Addr} {pre : α → Prop} {args : α → List Sh} {res : α → Sh → Prop}
/-- THE RULE: a def by its body -/
theorem pr_fn {x qual : Str} {st : Stmt} {f : Addr} {fd : FuncData} {N ps : List Str} {k : Nat} (F : L2.Fun K x qual st f fd) (sc : FnScope N ps (defScope st)) (hl : ∀ a, (args a).length = ps.length) (hi : ∀ a, ∀ s ∈ args a, s.im = true)
    (hb : ∀ a b, .bag b ∈ args a → mm a = some b) (hm : ∀ a b, mm a = some b → .bag b ∈ args a)
    (body : ∀ (cdv : Value) (A : Around) (outer : List Env) (s : Shared) (H : Hp) (E : XK) (a : α), Room k (A.deeper (envOfC qual (defScope st) s.heap.objs.size f cdv)) → pre a →
      ∃ t, PSs (cxOf L2.CX0 P w K mg base N qual (defScope st) f cdv A outer s H E).nox (defBody st) t ∧ DS K C (mm a) t (rho0 N (args a)) { rt := res a }) : FnOk P w K mg base L2.CX0 (k + 1) f fd ps (Pr K C mm pre args res) := by
  refine F.ok sc (fun vs H Q E h => ?_) (fun cdv A outer s H vs Q E hr h => ?_)
  · obtain ⟨a, S, _, _, hv, _⟩ := h
    rw [paired_len hv, hl a]
  · obtain ⟨a, S, hs, hp, hv, q⟩ := h
    obtain ⟨t, h1, h2⟩ := body cdv A outer s H E a hr hp
    refine ⟨t, h1, h2 S H (L2.start N vs) S H _ (stAt_start hs hv (hi a) (hb a) fun b e => ?_) (fun _ _ _ _ z => z.elim) q (fun _ _ _ _ z => z.elim) fun _ _ _ _ z => z.elim⟩
    have hmem := hm a b e
    obtain ⟨i, hi'⟩ := List.mem_iff_getElem?.mp hmem
    obtain ⟨v, _, _, _, h3⟩ := paired_get hv hi'
    exact bag_ne h3
end
end RD

end
section
set_option linter.all false
set_option maxRecDepth 100000
set_option maxHeartbeats 4000000
/-! M1: formulas and what the defs reckon, as plain functions. -/
namespace RD
open PySem PySem.Spec PyProof.Rows L2

inductive Wd where
  | wi | be | ah
  deriving DecidableEq
def Wd.s : Wd → Str
  | .wi => "with"
  | .be => "behind"
  | .ah => "ahead"
inductive F where
  | nm (n : Nat)
  | op (w : Wd) (a b : F)
  deriving DecidableEq
namespace F
def d : F → PyData
  | nm n => .int (n : Int)
  | op w a b => .tuple [.str w.s, a.d, b.d]
def isNm : F → Bool
  | nm _ => true
  | op _ _ _ => false
def sz : F → Nat
  | nm _ => 1
  | op _ a b => 1 + a.sz + b.sz
def dep : F → Nat
  | nm _ => 0
  | op _ a b => 1 + max a.dep b.dep
/-- all names below k -/
def lt (k : Nat) : F → Bool
  | nm n => decide (n < k)
  | op _ a b => a.lt k && b.lt k
theorem sz_pos : ∀ f : F, 1 ≤ f.sz
  | nm _ => Nat.le_refl _
  | op _ a b => by show 1 ≤ 1 + a.sz + b.sz; omega
theorem dep_sz : ∀ f : F, 2 * f.dep + 1 ≤ f.sz
  | nm _ => Nat.le_refl _
  | op _ a b => by
    have h1 := dep_sz a
    have h2 := dep_sz b
    show 2 * (1 + max a.dep b.dep) + 1 ≤ 1 + a.sz + b.sz
    omega
end F
theorem wd_ok (w : Wd) : (PyData.str w.s).canLay0 = true := by cases w <;> decide +kernel
theorem wd_eq (w v : Wd) : (w.s == v.s) = decide (w = v) := by cases w <;> cases v <;> decide +kernel
theorem eqv_F : ∀ f g : F, PyData.eqv f.d g.d = decide (f = g)
  | .nm n, .nm k => by
    show ((n : Int) == (k : Int)) = _
    by_cases h : n = k
    · subst h
      simp
    · rw [decide_eq_false (fun e => h (F.nm.inj e))]
      exact beq_eq_false_iff_ne.mpr (by omega)
  | .nm n, .op w a b => by
    rw [decide_eq_false (fun e => nomatch e)]
    simp only [F.d, PyData.eqv]
  | .op w a b, .nm n => by
    rw [decide_eq_false (fun e => nomatch e)]
    simp only [F.d, PyData.eqv]
  | .op w a b, .op v x y => by
    have h1 := eqv_F a x
    have h2 := eqv_F b y
    simp only [F.d, PyData.eqv, PyData.eqvAll] at h1 h2 ⊢
    rw [h1, h2, wd_eq, Bool.and_true]
    by_cases e1 : w = v
    · by_cases e2 : a = x
      · by_cases e3 : b = y
        · subst e1 e2 e3
          simp
        · simp [e3]
      · simp [e2]
    · simp [e1]
theorem lay_F : ∀ f : F, f.d.canLay0 = true
  | .nm n => rfl
  | .op w a b => by
    simp only [F.d, PyData.canLay0, PyData.canLayAll0]
    have h := wd_ok w
    simp only [PyData.canLay0] at h
    rw [h, lay_F a, lay_F b]
    rfl
theorem depth_F : ∀ f : F, f.d.depth = f.dep
  | .nm n => by simp only [F.d, PyData.depth, F.dep]
  | .op w a b => by
    simp only [F.d, PyData.depth, PyData.depthAll, F.dep]
    rw [depth_F a, depth_F b]
    omega
theorem shaped_of {x : PyData} (h1 : x.canLay0 = true) (h2 : x.depth ≤ 64) : SeqAt.shaped x = true := by
  show (x.canLay0 && decide (x.depth ≤ 64)) = true
  rw [h1, decide_eq_true h2] <;> rfl
theorem shaped_F {f : F} (h : f.dep ≤ 60) : SeqAt.shaped f.d = true := shaped_of (lay_F f) (by rw [depth_F]; omega)
theorem shaped_int (i : Int) : SeqAt.shaped (.int i) = true := by
  show (true && decide (PyData.depth (.int i) ≤ 64)) = true
  simp only [PyData.depth] <;> rfl
theorem shaped_wd (w : Wd) : SeqAt.shaped (.str w.s) = true := shaped_of (wd_ok w) (by simp only [PyData.depth]; omega)
theorem eqv_int (i j : Int) : PyData.eqv (.int i) (.int j) = decide (i = j) := by
  simp only [PyData.eqv]
  exact Bool.beq_eq_decide_eq _ _
theorem eqv_nat (i j : Nat) : PyData.eqv (natD i) (natD j) = decide (i = j) := by
  rw [eqv_int]
  by_cases h : i = j
  · subst h
    simp
  · rw [decide_eq_false h, decide_eq_false (by omega)]
theorem eqv_wd (w v : Wd) : PyData.eqv (.str w.s) (.str v.s) = decide (w = v) := by
  simp only [PyData.eqv]
  exact wd_eq w v
def optD : Option F → PyData
  | none => .none
  | some f => f.d
def optN : Option Nat → PyData
  | none => .none
  | some n => natD n
theorem isNone_F (f : F) : isNoneD f.d = false := by cases f <;> rfl
theorem isNone_opt (o : Option F) : isNoneD (optD o) = o.isNone := by
  cases o with
  | none => rfl
  | some f => exact isNone_F f

/-! ### closings -/
/-- going up -/
def rtN (el : List Nat) : Nat → Nat → Nat
  | 0, x => x
  | k + 1, x => if el.getD x x = x then x else rtN el k (el.getD x x)
def Clo.rt (c : Clo) (x : Nat) : Nat := rtN c.el c.el.length x
/-- elders are not greater -/
def Down (el : List Nat) : Prop := ∀ (x y : Nat), el[x]? = some y → y ≤ x
/-- the third place of the first row with two things at two places -/
def pl : Wd → Nat × Nat × Nat → Nat × Nat × Nat
  | .wi, (x, y, z) => (x, y, z)
  | .be, (x, y, z) => (x, z, y)
  | .ah, (x, y, z) => (y, z, x)
def tell : List (Nat × Nat × Nat) → Wd → Nat → Nat → Option Nat
  | [], _, _, _ => none
  | r :: rs, w, a, b => if (pl w r).1 = a ∧ (pl w r).2.1 = b then some (pl w r).2.2 else tell rs w a b
/-- what is known: each thing's least one, the third thing of two -/
structure Kn where
  rt : Nat → Nat
  tl : Wd → Nat → Nat → Option Nat
def Clo.kn (c : Clo) : Kn := ⟨c.rt, tell c.rows⟩
def lkn (M : List Nat) (R : List (Nat × Nat × Nat)) : Kn := ⟨fun x => M.getD x x, tell R⟩
def entryTold (k : Kn) (w : Wd) : F → F → Option Nat
  | .nm x, .nm y => k.tl w (k.rt x) (k.rt y)
  | _, _ => none
def rule1 : Wd → F → F → Option F
  | .wi, a, .op .be x y => if x = a then some y else none
  | .be, a, .op .wi x y => if x = a then some y else none
  | .ah, a, .op .wi x y => if y = a then some x else none
  | _, _, _ => none
def rule2 : Wd → F → F → Option F
  | .wi, .op .ah x y, b => if x = b then some y else none
  | .be, .op .ah x y, b => if y = b then some x else none
  | .ah, .op .be x y, b => if y = b then some x else none
  | _, _, _ => none
def ruleTold (w : Wd) (a b : F) : Option F := match rule1 w a b with
  | some f => some f
  | none => rule2 w a b
def shorter (k : Kn) : F → Option F
  | .nm x => if k.rt x = x then none else some (.nm (k.rt x))
  | .op w a b => match entryTold k w a b with
    | some n => some (.nm n)
    | none => ruleTold w a b
def firstStep (k : Kn) : F → Option F
  | .nm x => shorter k (.nm x)
  | .op w a b => match firstStep k a with
    | some a' => some (.op w a' b)
    | none => match firstStep k b with
      | some b' => some (.op w a b')
      | none => shorter k (.op w a b)
def stepsN (k : Kn) : Nat → F → List F
  | 0, f => [f]
  | n + 1, f => match firstStep k f with
    | none => [f]
    | some g => f :: stepsN k n g
def steps (k : Kn) (f : F) : List F := stepsN k f.sz f
def lastF (k : Kn) (f : F) : F := (steps k f).getLastD (.nm 0)
def roadF (k : Kn) (f g : F) : Option (List F) := if lastF k f = lastF k g then some (steps k f ++ (steps k g).dropLast.reverse) else none
def moveSide (k : Kn) : F → F → Bool
  | .nm _, _ => false
  | .op w a b, s => (match entryTold k w a b, s with
      | some n, .nm x => decide (k.rt x = n)
      | _, _ => false) || decide (ruleTold w a b = some s) || decide (rule2 w a b = some s)
def isMove (k : Kn) : F → F → Bool
  | .nm x, .nm y => decide (x ≠ y) && decide (k.rt x = k.rt y)
  | f, g => moveSide k f g || moveSide k g f
def isStep (k : Kn) : F → F → Bool
  | .op w a b, .op v x y => isMove k (.op w a b) (.op v x y) || (if w ≠ v then false else if a = x then isStep k b y else decide (b = y) && isStep k a x)
  | f, g => isMove k f g
def chain (q : F → F → Bool) : List F → Bool
  | [] => true
  | [_] => true
  | f :: g :: r => q f g && chain q (g :: r)
def isRoadF (k : Kn) (n : Nat) (f g : F) (l : List F) : Bool :=
  decide (1 ≤ l.length ∧ l.length ≤ 40) && l.all (fun x => x.lt n && decide (x.sz ≤ 15)) && decide (l.head? = some f) && decide (l.getLast? = some g) && chain (isStep k) l

/-! ### the law's own -/
/-- the long forms with their short ones -/
def lrulesB : F → List (F × F)
  | .nm _ => []
  | .op _ x y => [(.op .wi x (.op .be x y), y), (.op .be x (.op .wi x y), y), (.op .ah y (.op .wi x y), x)]
def lrulesA : F → List (F × F)
  | .nm _ => []
  | .op _ x y => [(.op .wi (.op .ah x y) x, y), (.op .be (.op .ah x y) y, x), (.op .ah (.op .be x y) y, x)]
def lrules (a b : F) : List (F × F) := lrulesB b ++ lrulesA a
def lfirst : List (F × F) → F → Option F
  | [], _ => none
  | p :: r, f => if p.1 = f then some p.2 else lfirst r f
def lplain (k : Kn) : F → F
  | .nm x => .nm (k.rt x)
  | .op w a b => match lplain k a, lplain k b with
    | a', b' => match (match a', b' with
        | .nm x, .nm y => k.tl w x y
        | _, _ => none) with
      | some n => .nm n
      | none => match lfirst (lrules a' b') (.op w a' b') with
        | some f => f
        | none => .op w a' b'
def lside (M : List Nat) (R : List (Nat × Nat × Nat)) : F → F → Bool
  | .nm _, _ => false
  | .op w a b, s => (match a, b, s with
      | .nm x, .nm y, .nm z => R.any fun r => decide (pl w r = (M.getD x x, M.getD y y, M.getD z z))
      | _, _, _ => false) || (lrules a b).any fun p => decide (p = (.op w a b, s))
def lmove (M : List Nat) (R : List (Nat × Nat × Nat)) : F → F → Bool
  | .nm x, .nm y => decide (x ≠ y) && decide (M.getD x x = M.getD y y)
  | f, g => lside M R f g || lside M R g f
def lstep (M : List Nat) (R : List (Nat × Nat × Nat)) : F → F → Bool
  | .op w a b, .op v x y => lmove M R (.op w a b) (.op v x y) || (if w ≠ v then false else (decide (a = x) && lstep M R b y) || (decide (b = y) && lstep M R a x))
  | f, g => lmove M R f g
def lroad (M : List Nat) (R : List (Nat × Nat × Nat)) (n : Nat) (f g : F) (l : List F) : Bool :=
  decide (1 ≤ l.length ∧ l.length ≤ 40) && l.all (fun x => x.lt n && decide (x.sz ≤ 15)) && decide (l.head? = some f) && decide (l.getLast? = some g) && chain (lstep M R) l

/-! ### facts -/
structure Fc where
  n : Nat
  es : List (Nat × Nat × Nat)
  un : List (Nat × Nat)
def duoD (p : Nat × Nat) : PyData := .tuple [natD p.1, natD p.2]
def Fc.d (f : Fc) : PyData := .tuple [natD f.n, .tuple (f.es.map rowD), .tuple (f.un.map duoD)]
end RD

end
section
set_option linter.all false
set_option maxRecDepth 100000
set_option maxHeartbeats 4000000
/-! R4: the text by places, callable defs, promises. -/
theorem L2.Room.units65 {k : Nat} {A : PySem.Around} (r : L2.Room k A) : A.units + 65 < PySem.cLine := by have := r.un; omega
namespace RD
open PySem PySem.Spec PyProof.Rows L2

theorem boot_bool : bootBuiltins "bool" = some (.type "bool") := by decide +kernel
theorem boot_str : bootBuiltins "str" = some (.type "str") := by decide +kernel
theorem boot_tuple : bootBuiltins "tuple" = some (.type "tuple") := by decide +kernel
theorem boot_int : bootBuiltins "int" = some (.type "int") := by decide +kernel
def topS (i : Nat) : Stmt := PySem.Challenge.pw_solvedbothsides_k14_whole_roads.main.body.getD i (.Pass ⟨0, 0, 0, 0⟩)

abbrev rIsNo : R2 := fun x y H Q => y = V.non ∧ Q (.bl (decide (x = .non))) H
abbrev rNotNo : R2 := fun x y H Q => y = V.non ∧ Q (.bl (!decide (x = .non))) H
abbrev rLenK (K : PySem.W.Frag) : List V → Hp → VK → Prop := fun xs H Q => ∃ p ys, xs = [V.ref p] ∧ (SqL K H p ys ∨ SqT K H p ys) ∧ Q (.int ys.length) H
abbrev rTupOf (K : PySem.W.Frag) : List V → Hp → VK → Prop := fun xs H Q => ∃ p ys, xs = [V.ref p] ∧ ((SqL K H p ys ∧ ∀ l, H l = none → Q (.ref l) (upd H l (.tup ys))) ∨ (SqT K H p ys ∧ Q (.ref p) H))
abbrev rLstOf (K : PySem.W.Frag) : List V → Hp → VK → Prop := fun xs H Q => ∃ p ys, xs = [V.ref p] ∧ (SqL K H p ys ∨ SqT K H p ys) ∧ ∀ l, H l = none → Q (.ref l) (upd H l (.lst ys))
abbrev rAbs1 : List V → Hp → VK → Prop := fun xs H Q => ∃ i, xs = [V.int i] ∧ Q (.int (if i < 0 then -i else i)) H
abbrev rMax2 : List V → Hp → VK → Prop := fun xs H Q => ∃ i j, xs = [V.int i, V.int j] ∧ Q (.int (if j > i then j else i)) H
abbrev rMin2 : List V → Hp → VK → Prop := fun xs H Q => ∃ i j, xs = [V.int i, V.int j] ∧ Q (.int (if j < i then j else i)) H

/-- a def of the module that may be called -/
structure Cl (P : Program) (w : World) (K : PySem.W.Frag) (mg : Str → Option Value) (base : Heap) (k : Nat) (x : Str) (sp : Sp) : Prop where
  ex : ∃ (f : Addr) (fd : FuncData) (ps : List Str), FnOk P w K mg base L2.CX0 k f fd ps sp ∧ mg x = some (.ref f) ∧ PySem.W.keepIn K (.ref f) = true ∧ Binds K fd ps []
/-- a method of the class at C -/
structure Mt (P : Program) (w : World) (K : PySem.W.Frag) (mg : Str → Option Value) (base : Heap) (k : Nat) (C : Addr) (m : Str) (sp : Sp) : Prop where
  ex : ∃ (f : Addr) (fd : FuncData) (ps : List Str), Cls K C ∧ Meth K C m f ∧ FnOk P w K mg base L2.CX0 k f fd ps sp ∧ Binds K fd ps []
/-- the class that may be made; sp: its __init__ -/
structure Mkr (P : Program) (w : World) (K : PySem.W.Frag) (mg : Str → Option Value) (base : Heap) (k : Nat) (x : Str) (C : Addr) (sp : Sp) : Prop where
  ex : ∃ (f : Addr) (fd : FuncData) (ps : List Str), Mk K C f ∧ FnOk P w K mg base L2.CX0 k f fd ps sp ∧ mg x = some (.ref C) ∧ Binds K fd ps []
section
variable {X : Cx} {k j : Nat} {C : Addr} {x m : Str} {sp : Sp} {p pos apos : Pos} {e o : Expr} {es : List Expr} {ta : TE} {t : TA}
theorem pe_d (c : Cl X.prog X.w X.K X.mg X.base k x sp) (hr : Room j X.A) (hk : k ≤ j) (hg : Gl X x) (ha : PA X (e :: es) t)
    (hdb : (x == ("__debug__" : Str)) = false := by decide) (he : starEach (e :: es) X.env = (false, eval e X.env) :: starEach es X.env := by rfl) (hpl : (backTo pos (starEach es X.env)).any (·.1) = false := by rfl) :
    PE X (.Call (.Name x p) (e :: es) [] pos) (tCall sp [] L2.E0 t) := by
  obtain ⟨f, fd, ps, G, hm, kp, b⟩ := c.ex
  exact pe_call G (hr.mono hk) hg hm kp b .nil L2.pass0 ha hdb he hpl
theorem pe_k (c : Mkr X.prog X.w X.K X.mg X.base k x C sp) (hr : Room j X.A) (hk : k + 1 ≤ j) (hg : Gl X x) (ha : PA X (e :: es) t)
    (hdb : (x == ("__debug__" : Str)) = false := by decide) (he : starEach (e :: es) X.env = (false, eval e X.env) :: starEach es X.env := by rfl) (hpl : (backTo pos (starEach es X.env)).any (·.1) = false := by rfl) :
    PE X (.Call (.Name x p) (e :: es) [] pos) (tMake C sp [] L2.E0 t) := by
  obtain ⟨f, fd, ps, M, G, hm, b⟩ := c.ex
  exact pe_make M G (hr.mono hk) hg hm b .nil L2.pass0 ha hdb he hpl
theorem pe_m {pl : Sem Bool} (c : Mt X.prog X.w X.K X.mg X.base k C m sp) (hr : Room j X.A) (hk : k ≤ j) (he : PE X o ta) (ha : PA X (e :: es) t)
    (hst : starEach (e :: es) X.env = (false, eval e X.env) :: starEach es X.env := by rfl) (hpl : (backTo pos (starEach es X.env)).any (·.1) = false := by rfl)
    (ht : eval (.Call (.Attribute o m apos) (e :: es) [] pos) X.env = (eval o X.env >>= fun ov => standAt apos.atName >>= fun _ => holding [ov] (getMethod ov m pl) >>= fun z =>
      callWith pos z.1 z.2 (backTo pos (starEach (e :: es) X.env)) (backToKw pos (keywordEach [] X.env))) := by rfl) :
    PE X (.Call (.Attribute o m apos) (e :: es) [] pos) (tMeth C m sp [] L2.E0 ta t) := by
  obtain ⟨f, fd, ps, hc, hm, G, b⟩ := c.ex
  exact pe_meth (pl := pl) he hc hm G (hr.mono hk) b .nil L2.pass0 ha hst hpl ht
theorem pe_m0 {pl : Sem Bool} (c : Mt X.prog X.w X.K X.mg X.base k C m sp) (hr : Room j X.A) (hk : k ≤ j) (he : PE X o ta)
    (ht : eval (.Call (.Attribute o m apos) [] [] pos) X.env = (eval o X.env >>= fun ov => standAt apos.atName >>= fun _ => holding [ov] (getMethod ov m pl) >>= fun z =>
      callWith pos z.1 z.2 (backTo pos (starEach [] X.env)) (backToKw pos (keywordEach [] X.env))) := by rfl) :
    PE X (.Call (.Attribute o m apos) [] [] pos) (tMeth C m sp [] L2.E0 ta tNil) := by
  obtain ⟨f, fd, ps, hc, hm, G, b⟩ := c.ex
  exact pe_meth0 (pl := pl) he hc hm G (hr.mono hk) b .nil L2.pass0 ht
end

def placesD : Wd → PyData
  | .wi => .tuple [natD 0, natD 1, natD 2]
  | .be => .tuple [natD 0, natD 2, natD 1]
  | .ah => .tuple [natD 1, natD 2, natD 0]
/-- what of the top is used: names of built-ins that are not the module's, constants -/
structure Bl (K : PySem.W.Frag) (w : World) (mg : Str → Option Value) (C aW aP : Addr) : Prop where
  cl : Cls K C
  nE : NoAttr K C "elder"
  nR : NoAttr K C "rows"
  isinstance_ : mg "isinstance" = none
  int_ : mg "int" = none
  bool_ : mg "bool" = none
  tuple_ : mg "tuple" = none
  str_ : mg "str" = none
  list_ : mg "list" = none
  len_ : mg "len" = none
  range_ : mg "range" = none
  zip_ : mg "zip" = none
  enumerate_ : mg "enumerate" = none
  any_ : mg "any" = none
  all_ : mg "all" = none
  set_ : mg "set" = none
  sorted_ : mg "sorted" = none
  abs_ : mg "abs" = none
  min_ : mg "min" = none
  max_ : mg "max" = none
  repr_ : mg "repr" = none
  gMAX_ROAD : ∃ u, mg "MAX_ROAD" = some u ∧ RelV (.int 40) u
  gMAX_SIZE : ∃ u, mg "MAX_SIZE" = some u ∧ RelV (.int 15) u
  gWORDS : ∃ u, mg "WORDS" = some u ∧ RelV (.ref aW) u
  gPLACES : ∃ u, mg "PLACES" = some u ∧ RelV (.ref aP) u
  words : SqT K (fun _ => none) aW [.str "with", .str "behind", .str "ahead"]
  places : ∀ v : Wd, ∃ z : V, KDct K w aP v.s z ∧ Dp K (fun _ => none) z (placesD v)
/-! ### promises over data -/
abbrev PD (K : PySem.W.Frag) (C : Addr) {α : Type} (pre : α → Prop) (args : α → List Sh) (res : α → PyData) : Sp := Pr K C (fun _ => none) pre args (fun a s => s = .d (res a))
section
variable (K : PySem.W.Frag) (C : Addr)
def PIsName : Sp := PD K C (fun _ : F => True) (fun f => [.d f.d]) (fun f => .bool f.isNm)
def PIsInteger : Sp := PD K C (fun _ : Int × Int × Int => True) (fun a => [.d (.int a.1), .d (.int a.2.1), .d (.int a.2.2)]) (fun a => .bool (decide (a.2.1 ≤ a.1 ∧ a.1 ≤ a.2.2)))
def PIsTuple : Sp := PD K C (fun _ : List PyData × Int => True) (fun a => [.d (.tuple a.1), .d (.int a.2)]) (fun a => .bool (decide ((a.1.length : Int) = a.2)))
def PIsWord : Sp := PD K C (fun _ : Str × List Str => True) (fun a => [.d (.str a.1), .d (.tuple (a.2.map PyData.str))]) (fun a => .bool (a.2.any fun z => decide (z = a.1)))
def PPartError (n : Nat) : Sp := PD K C (fun a : Nat × F => a.2.lt a.1 = true ∧ a.2.dep < n) (fun a => [.d (natD a.1), .d a.2.d]) (fun _ => .none)
def PSize (n : Nat) : Sp := PD K C (fun f : F => f.dep < n) (fun f => [.d f.d]) (fun f => natD f.sz)
def PFormulaError : Sp := PD K C (fun a : Nat × F => a.2.lt a.1 = true ∧ a.2.sz ≤ 15) (fun a => [.d (natD a.1), .d a.2.d]) (fun _ => .none)
def PClosingRoot : Sp := PD K C (fun a : Clo × Nat => Down a.1.el ∧ a.2 < a.1.el.length) (fun a => [.clo a.1, .d (natD a.2)]) (fun a => natD (a.1.rt a.2))
def PClosingTold : Sp := PD K C (fun _ : Clo × Wd × Nat × Nat => True) (fun a => [.clo a.1, .d (placesD a.2.1), .d (natD a.2.2.1), .d (natD a.2.2.2)]) (fun a => optN (tell a.1.rows a.2.1 a.2.2.1 a.2.2.2))
def PAreOne : Sp := PD K C (fun a : Clo × Nat × Nat => Down a.1.el ∧ a.2.1 < a.1.el.length ∧ a.2.2 < a.1.el.length) (fun a => [.clo a.1, .d (duoD a.2)]) (fun a => .bool (decide (a.1.rt a.2.1 = a.1.rt a.2.2)))
/-- formulas of things of a closing -/
def Clo.fit (c : Clo) (f : F) : Prop := Down c.el ∧ f.lt c.el.length = true
def PEntryTold : Sp := PD K C (fun a : Clo × Wd × F × F => a.1.fit (.op a.2.1 a.2.2.1 a.2.2.2)) (fun a => [.clo a.1, .d (F.op a.2.1 a.2.2.1 a.2.2.2).d]) (fun a => optN (entryTold a.1.kn a.2.1 a.2.2.1 a.2.2.2))
def made : F → Wd → Bool
  | .nm _, _ => false
  | .op v _ _, w => decide (v = w)
def PIsMade : Sp := PD K C (fun _ : F × Wd => True) (fun a => [.d a.1.d, .d (.str a.2.s)]) (fun a => .bool (made a.1 a.2))
def PRuleTold : Sp := PD K C (fun a : Wd × F × F => a.2.1.dep ≤ 40 ∧ a.2.2.dep ≤ 40) (fun a => [.d (F.op a.1 a.2.1 a.2.2).d]) (fun a => optD (ruleTold a.1 a.2.1 a.2.2))
def POtherRuleTold : Sp := PD K C (fun a : Wd × F × F => a.2.1.dep ≤ 40 ∧ a.2.2.dep ≤ 40) (fun a => [.d (F.op a.1 a.2.1 a.2.2).d]) (fun a => optD (rule2 a.1 a.2.1 a.2.2))
def PShorter : Sp := PD K C (fun a : Clo × F => a.1.fit a.2 ∧ a.2.dep ≤ 40) (fun a => [.clo a.1, .d a.2.d]) (fun a => optD (shorter a.1.kn a.2))
def PFirstStep (n : Nat) : Sp := PD K C (fun a : Clo × F => a.1.fit a.2 ∧ a.2.dep ≤ 40 ∧ a.2.dep < n) (fun a => [.clo a.1, .d a.2.d]) (fun a => optD (firstStep a.1.kn a.2))
end
end RD

end
section
set_option linter.all false
set_option maxRecDepth 100000
set_option maxHeartbeats 4000000
namespace RD
open PySem PySem.Spec PyProof.Rows L2
abbrev sIsInteger : Stmt := topS 7
abbrev NIsInteger : List Str := ["value", "low", "high"]
theorem scIsInteger : FnScope NIsInteger ["value", "low", "high"] (defScope sIsInteger) := ⟨rfl, rfl, rfl, by decide +kernel, rfl, by decide +kernel, by decide +kernel⟩
def tIsInteger (K : PySem.W.Frag) (C : Addr) : TS :=
  (tRet (tAndV (tCB (rIsi K) (tCons (tVar 0) (tCons (tC (.ty "int")) tNil))) (tAndV (tNotV (tCB (rIsi K) (tCons (tVar 0) (tCons (tC (.ty "bool")) tNil)))) (tChain (rI0 fun i j => .bl (decide (i ≤ j))) (rI0 fun i j => .bl (decide (i ≤ j))) (tVar 1) (tVar 0) (tVar 2)))))
set_option maxHeartbeats 8000000 in
theorem dvIsInteger {P : Program} {w : World} {K : PySem.W.Frag} {mg : Str → Option Value} {base : Heap} {C aW aP : Addr} {f : Addr} {cdv : Value} {A : Around} {outer : List Env} {s : Shared} {H : Hp} {E : XK} {k : Nat} (T : Bl K w mg C aW aP)  (hr : Room k (A.deeper (envOfC "is_integer" (defScope sIsInteger) s.heap.objs.size f cdv))) :
    PSs (cxOf L2.CX0 P w K mg base NIsInteger "is_integer" (defScope sIsInteger) f cdv A outer s H E).nox (defBody sIsInteger) (tIsInteger K C) :=
  (pss_one (ps_ret (pe_and (pe_callB call_isi (by rfl) T.isinstance_ (by decide +kernel) (pa_cons (pv 0) (pa_cons (pe_bltn (v := .ty "int") (by rfl) T.int_ boot_int rfl) pa_nil))) (pe_and (pe_not (pe_callB call_isi (by rfl) T.isinstance_ (by decide +kernel) (pa_cons (pv 0) (pa_cons (pe_bltn (v := .ty "bool") (by rfl) T.bool_ boot_bool rfl) pa_nil)))) (pe_one (pe_chain op_le op_le (pv 1) (pv 0) (pv 2)))))))
abbrev sIsTuple : Stmt := topS 8
abbrev NIsTuple : List Str := ["value", "many"]
theorem scIsTuple : FnScope NIsTuple ["value", "many"] (defScope sIsTuple) := ⟨rfl, rfl, rfl, by decide +kernel, rfl, by decide +kernel, by decide +kernel⟩
def tIsTuple (K : PySem.W.Frag) (C : Addr) : TS :=
  (tRet (tAndV (tCB (rIsi K) (tCons (tVar 0) (tCons (tC (.ty "tuple")) tNil))) (tOp (rEqD K) (tCB (rLenK K) (tCons (tVar 0) tNil)) (tVar 1))))
set_option maxHeartbeats 8000000 in
theorem dvIsTuple {P : Program} {w : World} {K : PySem.W.Frag} {mg : Str → Option Value} {base : Heap} {C aW aP : Addr} {f : Addr} {cdv : Value} {A : Around} {outer : List Env} {s : Shared} {H : Hp} {E : XK} {k : Nat} (T : Bl K w mg C aW aP)  (hr : Room k (A.deeper (envOfC "is_tuple" (defScope sIsTuple) s.heap.objs.size f cdv))) :
    PSs (cxOf L2.CX0 P w K mg base NIsTuple "is_tuple" (defScope sIsTuple) f cdv A outer s H E).nox (defBody sIsTuple) (tIsTuple K C) :=
  (pss_one (ps_ret (pe_and (pe_callB call_isi (by rfl) T.isinstance_ (by decide +kernel) (pa_cons (pv 0) (pa_cons (pe_bltn (v := .ty "tuple") (by rfl) T.tuple_ boot_tuple rfl) pa_nil))) (pe_one (pe_cmpR (op_eqD hr.units) (pe_callB call_len_seq (by rfl) T.len_ PySem.boot_len (pa_cons (pv 0) pa_nil)) (pv 1) (nomark _))))))
abbrev sIsWord : Stmt := topS 9
abbrev NIsWord : List Str := ["value", "words"]
theorem scIsWord : FnScope NIsWord ["value", "words"] (defScope sIsWord) := ⟨rfl, rfl, rfl, by decide +kernel, rfl, by decide +kernel, by decide +kernel⟩
def tIsWord (K : PySem.W.Frag) (C : Addr) : TS :=
  (tRet (tAndV (tCB (rIsi K) (tCons (tVar 0) (tCons (tC (.ty "str")) tNil))) (tOp (rIn K false) (tVar 0) (tVar 1))))
set_option maxHeartbeats 8000000 in
theorem dvIsWord {P : Program} {w : World} {K : PySem.W.Frag} {mg : Str → Option Value} {base : Heap} {C aW aP : Addr} {f : Addr} {cdv : Value} {A : Around} {outer : List Env} {s : Shared} {H : Hp} {E : XK} {k : Nat} (T : Bl K w mg C aW aP)  (hr : Room k (A.deeper (envOfC "is_word" (defScope sIsWord) s.heap.objs.size f cdv))) :
    PSs (cxOf L2.CX0 P w K mg base NIsWord "is_word" (defScope sIsWord) f cdv A outer s H E).nox (defBody sIsWord) (tIsWord K C) :=
  (pss_one (ps_ret (pe_and (pe_callB call_isi (by rfl) T.isinstance_ (by decide +kernel) (pa_cons (pv 0) (pa_cons (pe_bltn (v := .ty "str") (by rfl) T.str_ boot_str rfl) pa_nil))) (pe_one (pe_cmpR op_in_seq (pv 0) (pv 1) (by rfl))))))
abbrev sIsName : Stmt := topS 13
abbrev NIsName : List Str := ["formula"]
theorem scIsName : FnScope NIsName ["formula"] (defScope sIsName) := ⟨rfl, rfl, rfl, by decide +kernel, rfl, by decide +kernel, by decide +kernel⟩
def tIsName (K : PySem.W.Frag) (C : Addr) : TS :=
  (tRet (tCB (rIsi K) (tCons (tVar 0) (tCons (tC (.ty "int")) tNil))))
set_option maxHeartbeats 8000000 in
theorem dvIsName {P : Program} {w : World} {K : PySem.W.Frag} {mg : Str → Option Value} {base : Heap} {C aW aP : Addr} {f : Addr} {cdv : Value} {A : Around} {outer : List Env} {s : Shared} {H : Hp} {E : XK} {k : Nat} (T : Bl K w mg C aW aP)  (hr : Room k (A.deeper (envOfC "is_name" (defScope sIsName) s.heap.objs.size f cdv))) :
    PSs (cxOf L2.CX0 P w K mg base NIsName "is_name" (defScope sIsName) f cdv A outer s H E).nox (defBody sIsName) (tIsName K C) :=
  (pss_one (ps_ret (pe_callB call_isi (by rfl) T.isinstance_ (by decide +kernel) (pa_cons (pv 0) (pa_cons (pe_bltn (v := .ty "int") (by rfl) T.int_ boot_int rfl) pa_nil)))))
abbrev sPartError : Stmt := topS 14
abbrev NPartError : List Str := ["names", "value", "first"]
theorem scPartError : FnScope NPartError ["names", "value"] (defScope sPartError) := ⟨rfl, rfl, rfl, by decide +kernel, rfl, by decide +kernel, by decide +kernel⟩
def tPartError (K : PySem.W.Frag) (C : Addr) (aW aP : Addr) (nPartError : Nat) : TS :=
  (tSeq (tIfS (tAnd (tB (tCB (rIsi K) (tCons (tVar 1) (tCons (tC (.ty "int")) tNil)))) (tNot (tB (tCB (rIsi K) (tCons (tVar 1) (tCons (tC (.ty "bool")) tNil)))))) (tRet (tIf (tB (tCall (PIsInteger K C) [] L2.E0 (tCons (tVar 1) (tCons (tC (.int 0)) (tCons (tOp (rI0 fun i j => .int (i - j)) (tVar 0) (tC (.int 1))) tNil))))) (tC .non) (tC (.str "name")))) tNext)
    (tSeq (tIfS (tNot (tB (tCall (PIsTuple K C) [] L2.E0 (tCons (tVar 1) (tCons (tC (.int 3)) tNil))))) (tRet (tC (.str "formula"))) tNext)
    (tSeq (tIfS (tNot (tB (tCall (PIsWord K C) [] L2.E0 (tCons (tOp (rIx K) (tVar 1) (tC (.int 0))) (tCons (tC (.ref aW)) tNil))))) (tRet (tC (.str "word"))) tNext)
    (tSeq (tAsg (tCall (PPartError K C nPartError) [] L2.E0 (tCons (tVar 0) (tCons (tOp (rIx K) (tVar 1) (tC (.int 1))) tNil))) (gName 2))
    (tRet (tIf (tTest (tOp rIsNo (tVar 2) (tC .non))) (tCall (PPartError K C nPartError) [] L2.E0 (tCons (tVar 0) (tCons (tOp (rIx K) (tVar 1) (tC (.int 2))) tNil))) (tVar 2)))))))
set_option maxHeartbeats 8000000 in
theorem dvPartError {P : Program} {w : World} {K : PySem.W.Frag} {mg : Str → Option Value} {base : Heap} {C aW aP : Addr} {f : Addr} {cdv : Value} {A : Around} {outer : List Env} {s : Shared} {H : Hp} {E : XK} {k : Nat} {nPartError : Nat} (T : Bl K w mg C aW aP) {jIsInteger : Nat} (cIsInteger : Cl P w K mg base jIsInteger "is_integer" (PIsInteger K C)) (hjIsInteger : jIsInteger ≤ k)
    {jIsTuple : Nat} (cIsTuple : Cl P w K mg base jIsTuple "is_tuple" (PIsTuple K C)) (hjIsTuple : jIsTuple ≤ k)
    {jIsWord : Nat} (cIsWord : Cl P w K mg base jIsWord "is_word" (PIsWord K C)) (hjIsWord : jIsWord ≤ k)
    {jPartError : Nat} (cPartError : Cl P w K mg base jPartError "part_error" (PPartError K C nPartError)) (hjPartError : jPartError ≤ k) (hr : Room k (A.deeper (envOfC "part_error" (defScope sPartError) s.heap.objs.size f cdv))) :
    PSs (cxOf L2.CX0 P w K mg base NPartError "part_error" (defScope sPartError) f cdv A outer s H E).nox (defBody sPartError) (tPartError K C aW aP nPartError) :=
  (pss_cons (ps_if (PW.pt (pw_and (pt_val (pe_callB call_isi (by rfl) T.isinstance_ (by decide +kernel) (pa_cons (pv 1) (pa_cons (pe_bltn (v := .ty "int") (by rfl) T.int_ boot_int rfl) pa_nil)))) (pw_and1 (pt_not (pt_val (pe_callB call_isi (by rfl) T.isinstance_ (by decide +kernel) (pa_cons (pv 1) (pa_cons (pe_bltn (v := .ty "bool") (by rfl) T.bool_ boot_bool rfl) pa_nil)))))))) (pss_one (ps_ret (pe_ifExp (pt_val (pe_d cIsInteger hr (by omega) (by rfl) (pa_cons (pv 1) (pa_cons pe_int (pa_cons (pe_op op_sub (pv 0) pe_int) pa_nil))))) pe_non pe_str))) pss_nil)
    (pss_cons (ps_if (pt_not (pt_val (pe_d cIsTuple hr (by omega) (by rfl) (pa_cons (pv 1) (pa_cons pe_int pa_nil))))) (pss_one (ps_ret pe_str)) pss_nil)
    (pss_cons (ps_if (pt_not (pt_val (pe_d cIsWord hr (by omega) (by rfl) (pa_cons (pe_ix ix_seq (pv 1) pe_int (fun _ _ => rfl)) (pa_cons (C8.pe_gc (by rfl) T.gWORDS) pa_nil))))) (pss_one (ps_ret pe_str)) pss_nil)
    (pss_cons (ps_set (i := 2) scPartError.nd rfl (Or.inl rfl) (pe_d cPartError hr (by omega) (by rfl) (pa_cons (pv 0) (pa_cons (pe_ix ix_seq (pv 1) pe_int (fun _ _ => rfl)) pa_nil))))
    (pss_one (ps_ret (pe_ifExp (pt_cmpR op_isN (pv 2) pe_non (nomark _)) (pe_d cPartError hr (by omega) (by rfl) (pa_cons (pv 0) (pa_cons (pe_ix ix_seq (pv 1) pe_int (fun _ _ => rfl)) pa_nil))) (pv 2))))))))
abbrev sSize : Stmt := topS 15
abbrev NSize : List Str := ["formula"]
theorem scSize : FnScope NSize ["formula"] (defScope sSize) := ⟨rfl, rfl, rfl, by decide +kernel, rfl, by decide +kernel, by decide +kernel⟩
def tSize (K : PySem.W.Frag) (C : Addr) (nSize : Nat) : TS :=
  (tRet (tIf (tB (tCall (PIsName K C) [] L2.E0 (tCons (tVar 0) tNil))) (tC (.int 1)) (tOp (rI0 fun i j => .int (i + j)) (tOp (rI0 fun i j => .int (i + j)) (tC (.int 1)) (tCall (PSize K C nSize) [] L2.E0 (tCons (tOp (rIx K) (tVar 0) (tC (.int 1))) tNil))) (tCall (PSize K C nSize) [] L2.E0 (tCons (tOp (rIx K) (tVar 0) (tC (.int 2))) tNil)))))
set_option maxHeartbeats 8000000 in
theorem dvSize {P : Program} {w : World} {K : PySem.W.Frag} {mg : Str → Option Value} {base : Heap} {C aW aP : Addr} {f : Addr} {cdv : Value} {A : Around} {outer : List Env} {s : Shared} {H : Hp} {E : XK} {k : Nat} {nSize : Nat} (T : Bl K w mg C aW aP) {jIsName : Nat} (cIsName : Cl P w K mg base jIsName "is_name" (PIsName K C)) (hjIsName : jIsName ≤ k)
    {jSize : Nat} (cSize : Cl P w K mg base jSize "size" (PSize K C nSize)) (hjSize : jSize ≤ k) (hr : Room k (A.deeper (envOfC "size" (defScope sSize) s.heap.objs.size f cdv))) :
    PSs (cxOf L2.CX0 P w K mg base NSize "size" (defScope sSize) f cdv A outer s H E).nox (defBody sSize) (tSize K C nSize) :=
  (pss_one (ps_ret (pe_ifExp (pt_val (pe_d cIsName hr (by omega) (by rfl) (pa_cons (pv 0) pa_nil))) pe_int (pe_op op_add (pe_op op_add pe_int (pe_d cSize hr (by omega) (by rfl) (pa_cons (pe_ix ix_seq (pv 0) pe_int (fun _ _ => rfl)) pa_nil))) (pe_d cSize hr (by omega) (by rfl) (pa_cons (pe_ix ix_seq (pv 0) pe_int (fun _ _ => rfl)) pa_nil))))))
abbrev sFormulaError : Stmt := topS 16
abbrev NFormulaError : List Str := ["names", "value", "word"]
theorem scFormulaError : FnScope NFormulaError ["names", "value"] (defScope sFormulaError) := ⟨rfl, rfl, rfl, by decide +kernel, rfl, by decide +kernel, by decide +kernel⟩
def tFormulaError (K : PySem.W.Frag) (C : Addr) (nPartError : Nat) (nSize : Nat) : TS :=
  (tSeq (tAsg (tCall (PPartError K C nPartError) [] L2.E0 (tCons (tVar 0) (tCons (tVar 1) tNil))) (gName 2))
    (tSeq (tIfS (tAnd (tTest (tOp rIsNo (tVar 2) (tC .non))) (tTest (tOp (rI0 fun i j => .bl (decide (j < i))) (tCall (PSize K C nSize) [] L2.E0 (tCons (tVar 1) tNil)) (tC (.int 15))))) (tAsg (tC (.str "size")) (gName 2)) tNext)
    (tRet (tVar 2))))
set_option maxHeartbeats 8000000 in
theorem dvFormulaError {P : Program} {w : World} {K : PySem.W.Frag} {mg : Str → Option Value} {base : Heap} {C aW aP : Addr} {f : Addr} {cdv : Value} {A : Around} {outer : List Env} {s : Shared} {H : Hp} {E : XK} {k : Nat} {nPartError : Nat} {nSize : Nat} (T : Bl K w mg C aW aP) {jPartError : Nat} (cPartError : Cl P w K mg base jPartError "part_error" (PPartError K C nPartError)) (hjPartError : jPartError ≤ k)
    {jSize : Nat} (cSize : Cl P w K mg base jSize "size" (PSize K C nSize)) (hjSize : jSize ≤ k) (hr : Room k (A.deeper (envOfC "formula_error" (defScope sFormulaError) s.heap.objs.size f cdv))) :
    PSs (cxOf L2.CX0 P w K mg base NFormulaError "formula_error" (defScope sFormulaError) f cdv A outer s H E).nox (defBody sFormulaError) (tFormulaError K C nPartError nSize) :=
  (pss_cons (ps_set (i := 2) scFormulaError.nd rfl (Or.inl rfl) (pe_d cPartError hr (by omega) (by rfl) (pa_cons (pv 0) (pa_cons (pv 1) pa_nil))))
    (pss_cons (ps_if (PW.pt (pw_and (pt_cmpR op_isN (pv 2) pe_non (nomark _)) (pw_and1 (pt_cmpR op_gt (pe_d cSize hr (by omega) (by rfl) (pa_cons (pv 1) pa_nil)) (C8.pe_gc (by rfl) T.gMAX_SIZE) (nomark _))))) (pss_one (ps_set (i := 2) scFormulaError.nd rfl (Or.inl rfl) pe_str)) pss_nil)
    (pss_one (ps_ret (pv 2)))))
abbrev sIsMade : Stmt := topS 30
abbrev NIsMade : List Str := ["formula", "word"]
theorem scIsMade : FnScope NIsMade ["formula", "word"] (defScope sIsMade) := ⟨rfl, rfl, rfl, by decide +kernel, rfl, by decide +kernel, by decide +kernel⟩
def tIsMade (K : PySem.W.Frag) (C : Addr) : TS :=
  (tRet (tAndV (tNotV (tCall (PIsName K C) [] L2.E0 (tCons (tVar 0) tNil))) (tOp (rEqD K) (tOp (rIx K) (tVar 0) (tC (.int 0))) (tVar 1))))
set_option maxHeartbeats 8000000 in
theorem dvIsMade {P : Program} {w : World} {K : PySem.W.Frag} {mg : Str → Option Value} {base : Heap} {C aW aP : Addr} {f : Addr} {cdv : Value} {A : Around} {outer : List Env} {s : Shared} {H : Hp} {E : XK} {k : Nat} (T : Bl K w mg C aW aP) {jIsName : Nat} (cIsName : Cl P w K mg base jIsName "is_name" (PIsName K C)) (hjIsName : jIsName ≤ k) (hr : Room k (A.deeper (envOfC "is_made" (defScope sIsMade) s.heap.objs.size f cdv))) :
    PSs (cxOf L2.CX0 P w K mg base NIsMade "is_made" (defScope sIsMade) f cdv A outer s H E).nox (defBody sIsMade) (tIsMade K C) :=
  (pss_one (ps_ret (pe_and (pe_not (pe_d cIsName hr (by omega) (by rfl) (pa_cons (pv 0) pa_nil))) (pe_one (pe_cmpR (op_eqD hr.units) (pe_ix ix_seq (pv 0) pe_int (fun _ _ => rfl)) (pv 1) (nomark _))))))
abbrev sRuleTold : Stmt := topS 31
abbrev NRuleTold : List Str := ["formula", "word", "one", "other"]
theorem scRuleTold : FnScope NRuleTold ["formula"] (defScope sRuleTold) := ⟨rfl, rfl, rfl, by decide +kernel, rfl, by decide +kernel, by decide +kernel⟩
def tRuleTold (K : PySem.W.Frag) (C : Addr) : TS :=
  (tSeq (tAsg (tVar 0) (gTup K 3 (gCons (gName 1) (gCons (gName 2) (gCons (gName 3) gNil)))))
    (tSeq (tIfS (tTest (tOp (rEqD K) (tVar 1) (tC (.str "with")))) (tSeq (tIfS (tAnd (tB (tCall (PIsMade K C) [] L2.E0 (tCons (tVar 3) (tCons (tC (.str "behind")) tNil)))) (tTest (tOp (rEqD K) (tOp (rIx K) (tVar 3) (tC (.int 1))) (tVar 2)))) (tRet (tOp (rIx K) (tVar 3) (tC (.int 2)))) tNext)
    (tRet (tIf (tAnd (tB (tCall (PIsMade K C) [] L2.E0 (tCons (tVar 2) (tCons (tC (.str "ahead")) tNil)))) (tTest (tOp (rEqD K) (tOp (rIx K) (tVar 2) (tC (.int 1))) (tVar 3)))) (tOp (rIx K) (tVar 2) (tC (.int 2))) (tC .non)))) tNext)
    (tSeq (tIfS (tTest (tOp (rEqD K) (tVar 1) (tC (.str "behind")))) (tSeq (tIfS (tAnd (tB (tCall (PIsMade K C) [] L2.E0 (tCons (tVar 3) (tCons (tC (.str "with")) tNil)))) (tTest (tOp (rEqD K) (tOp (rIx K) (tVar 3) (tC (.int 1))) (tVar 2)))) (tRet (tOp (rIx K) (tVar 3) (tC (.int 2)))) tNext)
    (tRet (tIf (tAnd (tB (tCall (PIsMade K C) [] L2.E0 (tCons (tVar 2) (tCons (tC (.str "ahead")) tNil)))) (tTest (tOp (rEqD K) (tOp (rIx K) (tVar 2) (tC (.int 2))) (tVar 3)))) (tOp (rIx K) (tVar 2) (tC (.int 1))) (tC .non)))) tNext)
    (tSeq (tIfS (tAnd (tB (tCall (PIsMade K C) [] L2.E0 (tCons (tVar 3) (tCons (tC (.str "with")) tNil)))) (tTest (tOp (rEqD K) (tOp (rIx K) (tVar 3) (tC (.int 2))) (tVar 2)))) (tRet (tOp (rIx K) (tVar 3) (tC (.int 1)))) tNext)
    (tRet (tIf (tAnd (tB (tCall (PIsMade K C) [] L2.E0 (tCons (tVar 2) (tCons (tC (.str "behind")) tNil)))) (tTest (tOp (rEqD K) (tOp (rIx K) (tVar 2) (tC (.int 2))) (tVar 3)))) (tOp (rIx K) (tVar 2) (tC (.int 1))) (tC .non)))))))
set_option maxHeartbeats 8000000 in
theorem dvRuleTold {P : Program} {w : World} {K : PySem.W.Frag} {mg : Str → Option Value} {base : Heap} {C aW aP : Addr} {f : Addr} {cdv : Value} {A : Around} {outer : List Env} {s : Shared} {H : Hp} {E : XK} {k : Nat} (T : Bl K w mg C aW aP) {jIsMade : Nat} (cIsMade : Cl P w K mg base jIsMade "is_made" (PIsMade K C)) (hjIsMade : jIsMade ≤ k) (hr : Room k (A.deeper (envOfC "rule_told" (defScope sRuleTold) s.heap.objs.size f cdv))) :
    PSs (cxOf L2.CX0 P w K mg base NRuleTold "rule_told" (defScope sRuleTold) f cdv A outer s H E).nox (defBody sRuleTold) (tRuleTold K C) :=
  (pss_cons (ps_asg (pv 0) (pg_tup rfl (pgs_cons (pg_name (i := 1) scRuleTold.nd rfl (Or.inl rfl)) (pgs_cons (pg_name (i := 2) scRuleTold.nd rfl (Or.inl rfl)) (pgs_cons (pg_name (i := 3) scRuleTold.nd rfl (Or.inl rfl)) pgs_nil)))))
    (pss_cons (ps_if (pt_cmpR (op_eqD hr.units) (pv 1) pe_str (nomark _)) (pss_cons (ps_if (PW.pt (pw_and (pt_val (pe_d cIsMade hr (by omega) (by rfl) (pa_cons (pv 3) (pa_cons pe_str pa_nil)))) (pw_and1 (pt_cmpR (op_eqD hr.units) (pe_ix ix_seq (pv 3) pe_int (fun _ _ => rfl)) (pv 2) (nomark _))))) (pss_one (ps_ret (pe_ix ix_seq (pv 3) pe_int (fun _ _ => rfl)))) pss_nil)
    (pss_one (ps_ret (pe_ifExp (PW.pt (pw_and (pt_val (pe_d cIsMade hr (by omega) (by rfl) (pa_cons (pv 2) (pa_cons pe_str pa_nil)))) (pw_and1 (pt_cmpR (op_eqD hr.units) (pe_ix ix_seq (pv 2) pe_int (fun _ _ => rfl)) (pv 3) (nomark _))))) (pe_ix ix_seq (pv 2) pe_int (fun _ _ => rfl)) pe_non)))) pss_nil)
    (pss_cons (ps_if (pt_cmpR (op_eqD hr.units) (pv 1) pe_str (nomark _)) (pss_cons (ps_if (PW.pt (pw_and (pt_val (pe_d cIsMade hr (by omega) (by rfl) (pa_cons (pv 3) (pa_cons pe_str pa_nil)))) (pw_and1 (pt_cmpR (op_eqD hr.units) (pe_ix ix_seq (pv 3) pe_int (fun _ _ => rfl)) (pv 2) (nomark _))))) (pss_one (ps_ret (pe_ix ix_seq (pv 3) pe_int (fun _ _ => rfl)))) pss_nil)
    (pss_one (ps_ret (pe_ifExp (PW.pt (pw_and (pt_val (pe_d cIsMade hr (by omega) (by rfl) (pa_cons (pv 2) (pa_cons pe_str pa_nil)))) (pw_and1 (pt_cmpR (op_eqD hr.units) (pe_ix ix_seq (pv 2) pe_int (fun _ _ => rfl)) (pv 3) (nomark _))))) (pe_ix ix_seq (pv 2) pe_int (fun _ _ => rfl)) pe_non)))) pss_nil)
    (pss_cons (ps_if (PW.pt (pw_and (pt_val (pe_d cIsMade hr (by omega) (by rfl) (pa_cons (pv 3) (pa_cons pe_str pa_nil)))) (pw_and1 (pt_cmpR (op_eqD hr.units) (pe_ix ix_seq (pv 3) pe_int (fun _ _ => rfl)) (pv 2) (nomark _))))) (pss_one (ps_ret (pe_ix ix_seq (pv 3) pe_int (fun _ _ => rfl)))) pss_nil)
    (pss_one (ps_ret (pe_ifExp (PW.pt (pw_and (pt_val (pe_d cIsMade hr (by omega) (by rfl) (pa_cons (pv 2) (pa_cons pe_str pa_nil)))) (pw_and1 (pt_cmpR (op_eqD hr.units) (pe_ix ix_seq (pv 2) pe_int (fun _ _ => rfl)) (pv 3) (nomark _))))) (pe_ix ix_seq (pv 2) pe_int (fun _ _ => rfl)) pe_non)))))))
abbrev sOtherRuleTold : Stmt := topS 38
abbrev NOtherRuleTold : List Str := ["formula", "word", "one", "other"]
theorem scOtherRuleTold : FnScope NOtherRuleTold ["formula"] (defScope sOtherRuleTold) := ⟨rfl, rfl, rfl, by decide +kernel, rfl, by decide +kernel, by decide +kernel⟩
def tOtherRuleTold (K : PySem.W.Frag) (C : Addr) : TS :=
  (tSeq (tAsg (tVar 0) (gTup K 3 (gCons (gName 1) (gCons (gName 2) (gCons (gName 3) gNil)))))
    (tSeq (tIfS (tTest (tOp (rEqD K) (tVar 1) (tC (.str "with")))) (tRet (tIf (tAnd (tB (tCall (PIsMade K C) [] L2.E0 (tCons (tVar 2) (tCons (tC (.str "ahead")) tNil)))) (tTest (tOp (rEqD K) (tOp (rIx K) (tVar 2) (tC (.int 1))) (tVar 3)))) (tOp (rIx K) (tVar 2) (tC (.int 2))) (tC .non))) tNext)
    (tSeq (tIfS (tTest (tOp (rEqD K) (tVar 1) (tC (.str "behind")))) (tRet (tIf (tAnd (tB (tCall (PIsMade K C) [] L2.E0 (tCons (tVar 2) (tCons (tC (.str "ahead")) tNil)))) (tTest (tOp (rEqD K) (tOp (rIx K) (tVar 2) (tC (.int 2))) (tVar 3)))) (tOp (rIx K) (tVar 2) (tC (.int 1))) (tC .non))) tNext)
    (tRet (tIf (tAnd (tB (tCall (PIsMade K C) [] L2.E0 (tCons (tVar 2) (tCons (tC (.str "behind")) tNil)))) (tTest (tOp (rEqD K) (tOp (rIx K) (tVar 2) (tC (.int 2))) (tVar 3)))) (tOp (rIx K) (tVar 2) (tC (.int 1))) (tC .non))))))
set_option maxHeartbeats 8000000 in
theorem dvOtherRuleTold {P : Program} {w : World} {K : PySem.W.Frag} {mg : Str → Option Value} {base : Heap} {C aW aP : Addr} {f : Addr} {cdv : Value} {A : Around} {outer : List Env} {s : Shared} {H : Hp} {E : XK} {k : Nat} (T : Bl K w mg C aW aP) {jIsMade : Nat} (cIsMade : Cl P w K mg base jIsMade "is_made" (PIsMade K C)) (hjIsMade : jIsMade ≤ k) (hr : Room k (A.deeper (envOfC "other_rule_told" (defScope sOtherRuleTold) s.heap.objs.size f cdv))) :
    PSs (cxOf L2.CX0 P w K mg base NOtherRuleTold "other_rule_told" (defScope sOtherRuleTold) f cdv A outer s H E).nox (defBody sOtherRuleTold) (tOtherRuleTold K C) :=
  (pss_cons (ps_asg (pv 0) (pg_tup rfl (pgs_cons (pg_name (i := 1) scOtherRuleTold.nd rfl (Or.inl rfl)) (pgs_cons (pg_name (i := 2) scOtherRuleTold.nd rfl (Or.inl rfl)) (pgs_cons (pg_name (i := 3) scOtherRuleTold.nd rfl (Or.inl rfl)) pgs_nil)))))
    (pss_cons (ps_if (pt_cmpR (op_eqD hr.units) (pv 1) pe_str (nomark _)) (pss_one (ps_ret (pe_ifExp (PW.pt (pw_and (pt_val (pe_d cIsMade hr (by omega) (by rfl) (pa_cons (pv 2) (pa_cons pe_str pa_nil)))) (pw_and1 (pt_cmpR (op_eqD hr.units) (pe_ix ix_seq (pv 2) pe_int (fun _ _ => rfl)) (pv 3) (nomark _))))) (pe_ix ix_seq (pv 2) pe_int (fun _ _ => rfl)) pe_non))) pss_nil)
    (pss_cons (ps_if (pt_cmpR (op_eqD hr.units) (pv 1) pe_str (nomark _)) (pss_one (ps_ret (pe_ifExp (PW.pt (pw_and (pt_val (pe_d cIsMade hr (by omega) (by rfl) (pa_cons (pv 2) (pa_cons pe_str pa_nil)))) (pw_and1 (pt_cmpR (op_eqD hr.units) (pe_ix ix_seq (pv 2) pe_int (fun _ _ => rfl)) (pv 3) (nomark _))))) (pe_ix ix_seq (pv 2) pe_int (fun _ _ => rfl)) pe_non))) pss_nil)
    (pss_one (ps_ret (pe_ifExp (PW.pt (pw_and (pt_val (pe_d cIsMade hr (by omega) (by rfl) (pa_cons (pv 2) (pa_cons pe_str pa_nil)))) (pw_and1 (pt_cmpR (op_eqD hr.units) (pe_ix ix_seq (pv 2) pe_int (fun _ _ => rfl)) (pv 3) (nomark _))))) (pe_ix ix_seq (pv 2) pe_int (fun _ _ => rfl)) pe_non))))))
end RD

end
section
set_option linter.all false
set_option maxRecDepth 100000
set_option maxHeartbeats 4000000
/-! E1: the defs about values and formulas keep their promises. -/
namespace RD
open PySem PySem.Spec PyProof.Rows L2

/-- a def of the text as it stands behind the top -/
structure Df (K : PySem.W.Frag) (mg : Str → Option Value) (x : Str) (st : Stmt) (ps : List Str) : Prop where
  ex : ∃ (f : Addr) (fd : FuncData), L2.Fun K x x st f fd ∧ mg x = some (.ref f) ∧ Binds K fd ps []
def Sh.pure : Sh → Bool
  | .d _ => true
  | .tl _ => true
  | .clo _ => true
  | _ => false
theorem pure_im {s : Sh} (h : s.pure = true) : s.im = true := by cases s <;> first | rfl | cases h
section
variable {P : Program} {w : World} {K : PySem.W.Frag} {mg : Str → Option Value} {base : Heap} {C : Addr} {α : Type} {mm : α → Option Addr} {pre : α → Prop} {args : α → List Sh} {res : α → Sh → Prop}
theorem pd_cl {x : Str} {st : Stmt} {N ps : List Str} {k : Nat} (d : Df K mg x st ps) (sc : FnScope N ps (defScope st)) (hl : ∀ a, (args a).length = ps.length) (hi : ∀ a, (args a).all Sh.pure = true)
    (body : ∀ (f : Addr) (cdv : Value) (A : Around) (outer : List Env) (s : Shared) (H : Hp) (E : XK) (a : α), Room k (A.deeper (envOfC x (defScope st) s.heap.objs.size f cdv)) → pre a →
      ∃ t, PSs (cxOf L2.CX0 P w K mg base N x (defScope st) f cdv A outer s H E).nox (defBody st) t ∧ DS K C none t (rho0 N (args a)) { rt := res a }) : Cl P w K mg base (k + 1) x (Pr K C (fun _ => none) pre args res) := by
  obtain ⟨f, fd, F, hm, b⟩ := d.ex
  exact ⟨f, fd, ps, pr_fn F sc hl (fun a s hs => pure_im (List.all_eq_true.mp (hi a) s hs)) (fun a b hb => by
    have := List.all_eq_true.mp (hi a) _ hb
    cases this) (fun a b e => nomatch e) (body f), hm, F.kp, b⟩
end

section
variable {P : Program} {w : World} {K : PySem.W.Frag} {mg : Str → Option Value} {base : Heap} {C aW aP : Addr} {m : Option Addr} {r : Rho} {te : TE}
theorem isNm_kit (f : F) : kitB (tyD f.d) "int" = some f.isNm := by
  cases f
  · show kitB "int" "int" = some true
    decide +kernel
  · show kitB "tuple" "int" = some false
    decide +kernel
theorem cl_IsName (T : Bl K w mg C aW aP) (d : Df K mg "is_name" sIsName ["formula"]) : Cl P w K mg base 1 "is_name" (PIsName K C) :=
  pd_cl d scIsName (fun _ => rfl) (fun _ => rfl) fun f cdv A outer s H E a hr _ => ⟨_, dvIsName T hr, ds_ret (er_isi (er_var rfl rfl) (isNm_kit a)) fun s e => e⟩
theorem er_isName {f : F} (h : EvX K C m te r (fun z => z = .d f.d)) : EvX K C m (tCall (PIsName K C) [] L2.E0 (tCons te tNil)) r (fun z => z = .d (.bool f.isNm)) :=
  er_call1 f (ea_cons h ea_nil) trivial fun s e => e
theorem cl_IsInteger (T : Bl K w mg C aW aP) (d : Df K mg "is_integer" sIsInteger ["value", "low", "high"]) : Cl P w K mg base 1 "is_integer" (PIsInteger K C) :=
  pd_cl d scIsInteger (fun _ => rfl) (fun _ => rfl) fun f cdv A outer s H E a hr _ => ⟨_, dvIsInteger T hr, by
    obtain ⟨v, l, h⟩ := a
    refine ds_ret (P := fun z => z = .d (.bool (true && (!false && decide (l ≤ v ∧ v ≤ h))))) (er_andV (er_isi (x := .int v) (er_var rfl rfl) (show kitB "int" "int" = some true by decide +kernel)) fun _ => er_andV (er_notV (er_isi (x := .int v) (er_var rfl rfl) (show kitB "int" "bool" = some false by decide +kernel))) fun _ => ?_) fun s e => e
    intro S0 H0 σ S H st Q q
    obtain ⟨x1, e1, d1⟩ := st.sl 1 (.d (.int l)) rfl
    obtain ⟨x0, e0, d0⟩ := st.sl 0 (.d (.int v)) rfl
    obtain ⟨x2, e2, d2⟩ := st.sl 2 (.d (.int h)) rfl
    cases d1
    cases d0
    cases d2
    refine ⟨_, e1, _, e0, l, v, rfl, rfl, _, rfl, ?_⟩
    by_cases g : l ≤ v
    · rw [decide_eq_true g]
      refine iteT ⟨_, e2, v, h, rfl, rfl, q _ (.d (.bool _)) S H ?_ (Stp.refl st.sh) (Dp.bl _)⟩
      rw [show decide (l ≤ v ∧ v ≤ h) = decide (v ≤ h) by simp [g]]
    · rw [decide_eq_false g]
      refine iteF (q _ (.d (.bool _)) S H ?_ (Stp.refl st.sh) (Dp.bl _))
      rw [show decide (l ≤ v ∧ v ≤ h) = false by simp [g]]⟩
theorem cl_IsTuple (T : Bl K w mg C aW aP) (d : Df K mg "is_tuple" sIsTuple ["value", "many"]) : Cl P w K mg base 1 "is_tuple" (PIsTuple K C) :=
  pd_cl d scIsTuple (fun _ => rfl) (fun _ => rfl) fun f cdv A outer s H E a hr _ => ⟨_, dvIsTuple T hr, by
    refine ds_ret (er_andV (er_isi (x := .tuple a.1) (er_var rfl rfl) (show kitB "tuple" "tuple" = some true by decide +kernel)) fun _ => er_op (er_cb (ea_cons (er_var rfl rfl) ea_nil) rxa_lenT) (er_var rfl rfl) (rx_eqD (shaped_int _) (shaped_int _))) fun s e => ?_
    rw [e, eqv_int] <;> rfl⟩
theorem cl_IsWord (T : Bl K w mg C aW aP) (d : Df K mg "is_word" sIsWord ["value", "words"]) : Cl P w K mg base 1 "is_word" (PIsWord K C) :=
  pd_cl d scIsWord (fun _ => rfl) (fun _ => rfl) fun f cdv A outer s H E a hr _ => ⟨_, dvIsWord T hr, by
    exact ds_ret (er_andV (er_isi (x := .str a.1) (er_var rfl rfl) (show kitB "str" "str" = some true by decide +kernel)) fun _ => er_op (er_var rfl rfl) (er_var rfl rfl) rx_inT) fun s e => e⟩
theorem at_of3 {x y z : PyData} : atI [x, y, z] 0 = some x ∧ atI [x, y, z] 1 = some y ∧ atI [x, y, z] 2 = some z := ⟨rfl, rfl, rfl⟩
theorem er_i0 {wd : Wd} {a b : F} (h : EvX K C m te r (fun z => z = .d (F.op wd a b).d)) : EvX K C m (tOp (rIx K) te (tC (.int 0))) r (fun z => z = .d (.str wd.s)) := er_op h (er_int 0) (rx_ixT (ds := [.str wd.s, a.d, b.d]) rfl)
theorem er_i1 {wd : Wd} {a b : F} (h : EvX K C m te r (fun z => z = .d (F.op wd a b).d)) : EvX K C m (tOp (rIx K) te (tC (.int 1))) r (fun z => z = .d a.d) := er_op h (er_int 1) (rx_ixT (ds := [.str wd.s, a.d, b.d]) rfl)
theorem er_i2 {wd : Wd} {a b : F} (h : EvX K C m te r (fun z => z = .d (F.op wd a b).d)) : EvX K C m (tOp (rIx K) te (tC (.int 2))) r (fun z => z = .d b.d) := er_op h (er_int 2) (rx_ixT (ds := [.str wd.s, a.d, b.d]) rfl)
theorem er_wd (v : Wd) {z : Str} (h : z = v.s) : EvX K C m (tC (.str z)) r (fun y => y = .d (.str v.s)) := by
  rw [h]
  exact er_str _
theorem er_eqW {v u : Wd} {ta tb : TE} (h1 : EvX K C m ta r (fun z => z = .d (.str v.s))) (h2 : EvX K C m tb r (fun z => z = .d (.str u.s))) : EvX K C m (tOp (rEqD K) ta tb) r (fun z => z = .d (.bool (decide (v = u)))) :=
  (er_op h1 h2 (rx_eqD (shaped_wd _) (shaped_wd _))).is (by rw [eqv_wd])
theorem er_eqF {f g : F} {ta tb : TE} (h1 : EvX K C m ta r (fun z => z = .d f.d)) (h2 : EvX K C m tb r (fun z => z = .d g.d)) (d1 : f.dep ≤ 60) (d2 : g.dep ≤ 60) : EvX K C m (tOp (rEqD K) ta tb) r (fun z => z = .d (.bool (decide (f = g)))) :=
  (er_op h1 h2 (rx_eqD (shaped_F d1) (shaped_F d2))).is (by rw [eqv_F])
theorem cl_IsMade (T : Bl K w mg C aW aP) (cN : Cl P w K mg base 1 "is_name" (PIsName K C)) (d : Df K mg "is_made" sIsMade ["formula", "word"]) : Cl P w K mg base 2 "is_made" (PIsMade K C) :=
  pd_cl d scIsMade (fun _ => rfl) (fun _ => rfl) fun f cdv A outer s H E a hr _ => ⟨_, dvIsMade T cN (by omega) hr, by
    obtain ⟨g, v⟩ := a
    cases g with
    | nm n => exact ds_ret (er_andV (a := !true) (b := true) (er_notV (er_isName (f := .nm n) (er_var rfl rfl))) fun e => nomatch e) fun s e => e
    | op u x y => exact ds_ret (er_andV (a := !false) (er_notV (er_isName (f := .op u x y) (er_var rfl rfl))) fun _ => er_eqW (er_i0 (er_var rfl rfl)) (er_var rfl rfl)) fun s e => e⟩
theorem er_made {f : F} {v : Wd} {z : Str} (h : EvX K C m te r (fun z => z = .d f.d)) (hz : z = v.s) : EvX K C m (tCall (PIsMade K C) [] L2.E0 (tCons te (tCons (tC (.str z)) tNil))) r (fun y => y = .d (.bool (made f v))) :=
  er_call1 (f, v) (ea_cons h (ea_cons (er_wd v hz) ea_nil)) trivial fun s e => e
/-- a formula of a word, one of whose parts is another formula: another part -/
def pick (v : Wd) (p q : F → F → F) (g : F) : F → Option F
  | .nm _ => none
  | .op u x y => if u = v ∧ p x y = g then some (q x y) else none
def picks (v : Wd) (p : F → F → F) (g : F) : F → Bool
  | .nm _ => false
  | .op u x y => decide (u = v) && decide (p x y = g)
theorem pick_yes {v : Wd} {p q : F → F → F} {g f : F} (h : picks v p g f = true) : ∃ u x y, f = .op u x y ∧ pick v p q g f = some (q x y) := by
  cases f with
  | nm _ => cases h
  | op u x y =>
    have h : (decide (u = v) && decide (p x y = g)) = true := h
    rw [Bool.and_eq_true, decide_eq_true_eq, decide_eq_true_eq] at h
    exact ⟨u, x, y, rfl, if_pos h⟩
theorem pick_no {v : Wd} {p q : F → F → F} {g f : F} (h : picks v p g f = false) : pick v p q g f = none := by
  cases f with
  | nm _ => rfl
  | op u x y =>
    have h : (decide (u = v) && decide (p x y = g)) = false := h
    refine if_neg fun z => ?_
    rw [decide_eq_true z.1, decide_eq_true z.2] at h
    cases h
theorem rule1_wi (a b : F) : rule1 .wi a b = pick .be (fun x _ => x) (fun _ y => y) a b := by
  cases b with
  | nm _ => rfl
  | op u x y => cases u <;> simp [rule1, pick]
theorem rule1_be (a b : F) : rule1 .be a b = pick .wi (fun x _ => x) (fun _ y => y) a b := by
  cases b with
  | nm _ => rfl
  | op u x y => cases u <;> simp [rule1, pick]
theorem rule1_ah (a b : F) : rule1 .ah a b = pick .wi (fun _ y => y) (fun x _ => x) a b := by
  cases b with
  | nm _ => rfl
  | op u x y => cases u <;> simp [rule1, pick]
theorem rule2_wi (a b : F) : rule2 .wi a b = pick .ah (fun x _ => x) (fun _ y => y) b a := by
  cases a with
  | nm _ => rfl
  | op u x y => cases u <;> simp [rule2, pick]
theorem rule2_be (a b : F) : rule2 .be a b = pick .ah (fun _ y => y) (fun x _ => x) b a := by
  cases a with
  | nm _ => rfl
  | op u x y => cases u <;> simp [rule2, pick]
theorem rule2_ah (a b : F) : rule2 .ah a b = pick .be (fun _ y => y) (fun x _ => x) b a := by
  cases a with
  | nm _ => rfl
  | op u x y => cases u <;> simp [rule2, pick]
theorem et_picks {f g : F} {v : Wd} {z : Str} {tp tg : TE} {p : F → F → F} (h : EvX K C m te r (fun z => z = .d f.d)) (hz : z = v.s) (hp : ∀ u x y, f = .op u x y → EvX K C m tp r (fun z => z = .d (p x y).d) ∧ (p x y).dep ≤ 60)
    (hg : EvX K C m tg r (fun z => z = .d g.d)) (dg : g.dep ≤ 60) : EvT K C m (tAnd (tB (tCall (PIsMade K C) [] L2.E0 (tCons te (tCons (tC (.str z)) tNil)))) (tTest (tOp (rEqD K) tp tg))) r (fun b => b = picks v p g f) := by
  cases f with
  | nm n => exact et_and (a := false) (b := true) (et_B (er_made h hz)) fun e => nomatch e
  | op u x y =>
    obtain ⟨h1, h2⟩ := hp u x y rfl
    exact et_and (et_B (er_made h hz)) fun _ => et_val (er_eqF h1 hg h2 dg)
/-- part if made .. else None -/
theorem er_pick {f g : F} {v : Wd} {z : Str} {tp tg tq : TE} {p q : F → F → F} (h : EvX K C m te r (fun z => z = .d f.d)) (hz : z = v.s) (hp : ∀ u x y, f = .op u x y → EvX K C m tp r (fun z => z = .d (p x y).d) ∧ (p x y).dep ≤ 60)
    (hq : ∀ u x y, f = .op u x y → EvX K C m tq r (fun z => z = .d (q x y).d)) (hg : EvX K C m tg r (fun z => z = .d g.d)) (dg : g.dep ≤ 60) :
    EvX K C m (tIf (tAnd (tB (tCall (PIsMade K C) [] L2.E0 (tCons te (tCons (tC (.str z)) tNil)))) (tTest (tOp (rEqD K) tp tg))) tq (tC .non)) r (fun s => s = .d (optD (pick v p q g f))) :=
  er_if (et_picks h hz hp hg dg) (fun e => by
    obtain ⟨u, x, y, e1, e2⟩ := pick_yes (q := q) e
    rw [e2]
    exact hq u x y e1) fun e => by
    rw [pick_no e]
    exact er_non
theorem gt_op {wd : Wd} {a b : F} {i j k : Nat} : GT K C m (gTup K 3 (gCons (gName i) (gCons (gName j) (gCons (gName k) gNil)))) (.d (F.op wd a b).d) r (((r.set i (some (.d (.str wd.s)))).set j (some (.d a.d))).set k (some (.d b.d))) [i, j, k] :=
  gt_tup (xs := [.str wd.s, a.d, b.d]) (gts_cons (x := .d (.str wd.s)) (xs := [.d a.d, .d b.d]) gt_nameD (gts_cons (x := .d a.d) (xs := [.d b.d]) gt_nameD (gts_cons (x := .d b.d) (xs := []) gt_nameD gts_nil)))
theorem subs_ok {f u x y} (h : F.dep f ≤ 40) (e : f = F.op u x y) : x.dep ≤ 60 ∧ y.dep ≤ 60 := by
  rw [e] at h
  have : 1 + max x.dep y.dep ≤ 40 := h
  omega
/-- three ways by a word -/
theorem ds_words {wd : Wd} {i : Nat} {O : Out} {t1 t2 t3 : TS} (h : EvX K C m (tVar i) r (fun z => z = .d (.str wd.s))) (h1 : wd = .wi → DS K C m t1 r { O with nx := fun _ => False }) (h2 : wd = .be → DS K C m t2 r { O with nx := fun _ => False }) (h3 : wd = .ah → DS K C m t3 r O) :
    DS K C m (tSeq (tIfS (tTest (tOp (rEqD K) (tVar i) (tC (.str "with")))) t1 tNext) (tSeq (tIfS (tTest (tOp (rEqD K) (tVar i) (tC (.str "behind")))) t2 tNext) t3)) r O :=
  ds_ifr (et_val (er_eqW h (er_wd .wi rfl))) (fun e => h1 (of_decide_eq_true e)) fun e => ds_ifr (et_val (er_eqW h (er_wd .be rfl))) (fun e2 => h2 (of_decide_eq_true e2)) fun e2 => h3 (by
    have q1 := of_decide_eq_false e
    have q2 := of_decide_eq_false e2
    cases wd <;> first | rfl | exact absurd rfl q1 | exact absurd rfl q2)
theorem cl_OtherRuleTold (T : Bl K w mg C aW aP) (cM : Cl P w K mg base 2 "is_made" (PIsMade K C)) (d : Df K mg "other_rule_told" sOtherRuleTold ["formula"]) : Cl P w K mg base 3 "other_rule_told" (POtherRuleTold K C) :=
  pd_cl d scOtherRuleTold (fun _ => rfl) (fun _ => rfl) fun f cdv A outer s H E a hr hp => ⟨_, dvOtherRuleTold T cM (by omega) hr, by
    obtain ⟨wd, a, b⟩ := a
    obtain ⟨da, db⟩ := hp
    refine ds_asg (er_var rfl rfl) gt_op (ds_words (er_var rfl rfl) (fun e => ?_) (fun e => ?_) fun e => ?_)
    · subst e
      exact ds_ret (er_pick (q := fun _ y => y) (p := fun x _ => x) (er_var rfl rfl) (v := .ah) rfl (fun u x y q => ⟨er_i1 (wd := u) (a := x) (b := y) (q ▸ er_var rfl rfl), (subs_ok da q).1⟩) (fun u x y q => er_i2 (wd := u) (a := x) (b := y) (q ▸ er_var rfl rfl)) (er_var rfl rfl) (Nat.le_trans db (by decide))) fun s e => by rw [e, ← rule2_wi]
    · subst e
      exact ds_ret (er_pick (q := fun x _ => x) (p := fun _ y => y) (er_var rfl rfl) (v := .ah) rfl (fun u x y q => ⟨er_i2 (wd := u) (a := x) (b := y) (q ▸ er_var rfl rfl), (subs_ok da q).2⟩) (fun u x y q => er_i1 (wd := u) (a := x) (b := y) (q ▸ er_var rfl rfl)) (er_var rfl rfl) (Nat.le_trans db (by decide))) fun s e => by rw [e, ← rule2_be]
    · subst e
      exact ds_ret (er_pick (q := fun x _ => x) (p := fun _ y => y) (er_var rfl rfl) (v := .be) rfl (fun u x y q => ⟨er_i2 (wd := u) (a := x) (b := y) (q ▸ er_var rfl rfl), (subs_ok da q).2⟩) (fun u x y q => er_i1 (wd := u) (a := x) (b := y) (q ▸ er_var rfl rfl)) (er_var rfl rfl) (Nat.le_trans db (by decide))) fun s e => by rw [e, ← rule2_ah]⟩
theorem rt_one {w : Wd} {a b f : F} (h : rule1 w a b = some f) : ruleTold w a b = some f := by
  unfold ruleTold
  rw [h]
theorem rt_two {w : Wd} {a b : F} (h : rule1 w a b = none) : ruleTold w a b = rule2 w a b := by
  unfold ruleTold
  rw [h]
theorem cl_RuleTold (T : Bl K w mg C aW aP) (cM : Cl P w K mg base 2 "is_made" (PIsMade K C)) (d : Df K mg "rule_told" sRuleTold ["formula"]) : Cl P w K mg base 3 "rule_told" (PRuleTold K C) :=
  pd_cl d scRuleTold (fun _ => rfl) (fun _ => rfl) fun f cdv A outer s H E a hr hp => ⟨_, dvRuleTold T cM (by omega) hr, by
    obtain ⟨wd, a, b⟩ := a
    obtain ⟨da, db⟩ := hp
    refine ds_asg (er_var rfl rfl) gt_op (ds_words (er_var rfl rfl) (fun e => ?_) (fun e => ?_) fun e => ?_)
    · subst e
      refine ds_ifr (et_picks (p := fun x _ => x) (er_var rfl rfl) (v := .be) rfl (fun u x y q => ⟨er_i1 (wd := u) (a := x) (b := y) (q ▸ er_var rfl rfl), (subs_ok db q).1⟩) (er_var rfl rfl) (Nat.le_trans da (by decide))) (fun e => ?_) fun e => ?_
      · obtain ⟨u, x, y, e1, e2⟩ := pick_yes (q := fun _ y => y) e
        exact ds_ret (er_i2 (wd := u) (a := x) (b := y) (e1 ▸ er_var rfl rfl)) fun s e => by rw [e]; exact congrArg (fun o => Sh.d (optD o)) (rt_one ((rule1_wi a b).trans e2)).symm
      · have e2 := pick_no (q := fun _ y => y) e
        exact ds_ret (er_pick (q := fun _ y => y) (p := fun x _ => x) (er_var rfl rfl) (v := .ah) rfl (fun u x y q => ⟨er_i1 (wd := u) (a := x) (b := y) (q ▸ er_var rfl rfl), (subs_ok da q).1⟩) (fun u x y q => er_i2 (wd := u) (a := x) (b := y) (q ▸ er_var rfl rfl)) (er_var rfl rfl) (Nat.le_trans db (by decide))) fun s e => by rw [e, ← rule2_wi]; exact congrArg (fun o => Sh.d (optD o)) (rt_two ((rule1_wi a b).trans e2)).symm
    · subst e
      refine ds_ifr (et_picks (p := fun x _ => x) (er_var rfl rfl) (v := .wi) rfl (fun u x y q => ⟨er_i1 (wd := u) (a := x) (b := y) (q ▸ er_var rfl rfl), (subs_ok db q).1⟩) (er_var rfl rfl) (Nat.le_trans da (by decide))) (fun e => ?_) fun e => ?_
      · obtain ⟨u, x, y, e1, e2⟩ := pick_yes (q := fun _ y => y) e
        exact ds_ret (er_i2 (wd := u) (a := x) (b := y) (e1 ▸ er_var rfl rfl)) fun s e => by rw [e]; exact congrArg (fun o => Sh.d (optD o)) (rt_one ((rule1_be a b).trans e2)).symm
      · have e2 := pick_no (q := fun _ y => y) e
        exact ds_ret (er_pick (q := fun x _ => x) (p := fun _ y => y) (er_var rfl rfl) (v := .ah) rfl (fun u x y q => ⟨er_i2 (wd := u) (a := x) (b := y) (q ▸ er_var rfl rfl), (subs_ok da q).2⟩) (fun u x y q => er_i1 (wd := u) (a := x) (b := y) (q ▸ er_var rfl rfl)) (er_var rfl rfl) (Nat.le_trans db (by decide))) fun s e => by rw [e, ← rule2_be]; exact congrArg (fun o => Sh.d (optD o)) (rt_two ((rule1_be a b).trans e2)).symm
    · subst e
      refine ds_ifr (et_picks (p := fun _ y => y) (er_var rfl rfl) (v := .wi) rfl (fun u x y q => ⟨er_i2 (wd := u) (a := x) (b := y) (q ▸ er_var rfl rfl), (subs_ok db q).2⟩) (er_var rfl rfl) (Nat.le_trans da (by decide))) (fun e => ?_) fun e => ?_
      · obtain ⟨u, x, y, e1, e2⟩ := pick_yes (q := fun x _ => x) e
        exact ds_ret (er_i1 (wd := u) (a := x) (b := y) (e1 ▸ er_var rfl rfl)) fun s e => by rw [e]; exact congrArg (fun o => Sh.d (optD o)) (rt_one ((rule1_ah a b).trans e2)).symm
      · have e2 := pick_no (q := fun x _ => x) e
        exact ds_ret (er_pick (q := fun x _ => x) (p := fun _ y => y) (er_var rfl rfl) (v := .be) rfl (fun u x y q => ⟨er_i2 (wd := u) (a := x) (b := y) (q ▸ er_var rfl rfl), (subs_ok da q).2⟩) (fun u x y q => er_i1 (wd := u) (a := x) (b := y) (q ▸ er_var rfl rfl)) (er_var rfl rfl) (Nat.le_trans db (by decide))) fun s e => by rw [e, ← rule2_ah]; exact congrArg (fun o => Sh.d (optD o)) (rt_two ((rule1_ah a b).trans e2)).symm⟩
end
end RD

end
section
set_option linter.all false
set_option maxRecDepth 100000
set_option maxHeartbeats 4000000
/-! E2: sizes and errors of formulas. -/
namespace RD
open PySem PySem.Spec PyProof.Rows L2
section
variable {P : Program} {w : World} {K : PySem.W.Frag} {mg : Str → Option Value} {base : Heap} {C aW aP : Addr} {m : Option Addr} {r : Rho} {te : TE}
theorem dp_none {S : Hp} {v : V} {x : PyData} (h : Dp K (fun _ => none) v x) : Dp K S v x := dp_mono (fun b o (e : (none : Option HO) = some o) => nomatch e) h
theorem fdep {u : Wd} {x y : F} {n : Nat} (h : (F.op u x y).dep < n + 1) : x.dep < n ∧ y.dep < n := by
  have : 1 + max x.dep y.dep < n + 1 := h
  omega
theorem flt {u : Wd} {x y : F} {n : Nat} (h : (F.op u x y).lt n = true) : x.lt n = true ∧ y.lt n = true := by
  have : (x.lt n && y.lt n) = true := h
  rw [Bool.and_eq_true] at this
  exact this
theorem cl_Size (T : Bl K w mg C aW aP) (cN : Cl P w K mg base 1 "is_name" (PIsName K C)) (d : Df K mg "size" sSize ["formula"]) : ∀ n, Cl P w K mg base (2 + n) "size" (PSize K C n)
  | 0 => pd_cl (k := 1) d scSize (fun _ => rfl) (fun _ => rfl) fun f cdv A outer s H E a hr hp => absurd hp (Nat.not_lt_zero _)
  | n + 1 => pd_cl (k := 2 + n) d scSize (fun _ => rfl) (fun _ => rfl) fun f cdv A outer s H E a hr hp => ⟨_, dvSize T cN (by omega) (cl_Size T cN d n) (by omega) hr, by
    refine ds_ret (P := fun z => z = .d (natD a.sz)) (er_if (et_B (er_isName (er_var rfl rfl))) (fun e => ?_) fun e => ?_) fun s e => e
    · cases a with
      | nm k => exact er_int 1
      | op _ _ _ => cases e
    · cases a with
      | nm k => cases e
      | op u x y =>
        obtain ⟨h1, h2⟩ := fdep hp
        refine (er_op (er_op (er_int 1) (er_call1 (P := fun s => s = .d (natD x.sz)) x (ea_cons (er_i1 (wd := u) (a := x) (b := y) (er_var rfl rfl)) ea_nil) h1 fun s e => e) rx_add) (er_call1 (P := fun s => s = .d (natD y.sz)) y (ea_cons (er_i2 (wd := u) (a := x) (b := y) (er_var rfl rfl)) ea_nil) h2 fun s e => e) rx_add).is ?_
        show Sh.d (.int (1 + (x.sz : Int) + (y.sz : Int))) = Sh.d (.int ((1 + x.sz + y.sz : Nat) : Int))
        rw [Int.natCast_add, Int.natCast_add] <;> rfl⟩
theorem er_words (T : Bl K w mg C aW aP) : EvX K C m (tC (.ref aW)) r (fun z => z = .d (.tuple ((["with", "behind", "ahead"] : List Str).map PyData.str))) :=
  er_c fun S => dp_none (.tup T.words (.cons (.str _) (.cons (.str _) (.cons (.str _) .nil))))
theorem word_in (v : Wd) : (["with", "behind", "ahead"] : List Str).any (fun z => decide (z = v.s)) = true := by cases v <;> decide +kernel
theorem cl_PartError (T : Bl K w mg C aW aP) (cI : Cl P w K mg base 1 "is_integer" (PIsInteger K C)) (cT : Cl P w K mg base 1 "is_tuple" (PIsTuple K C)) (cW : Cl P w K mg base 1 "is_word" (PIsWord K C)) (d : Df K mg "part_error" sPartError ["names", "value"]) :
    ∀ n, Cl P w K mg base (2 + n) "part_error" (PPartError K C n)
  | 0 => pd_cl (k := 1) d scPartError (fun _ => rfl) (fun _ => rfl) fun f cdv A outer s H E a hr hp => absurd hp.2 (Nat.not_lt_zero _)
  | n + 1 => pd_cl (k := 2 + n) d scPartError (fun _ => rfl) (fun _ => rfl) fun f cdv A outer s H E a hr hp => by
    refine ⟨_, dvPartError T cI (by omega) cT (by omega) cW (by omega) (cl_PartError T cI cT cW d n) (by omega) hr, ?_⟩
    obtain ⟨k, g⟩ := a
    cases g with
    | nm i =>
      have hi : i < k := of_decide_eq_true hp.1
      refine ds_ifr (b := true && !false) (et_and (et_B (er_isi (x := natD i) (er_var rfl rfl) (show kitB "int" "int" = some true by decide +kernel))) fun _ => et_not (et_B (er_isi (x := natD i) (er_var rfl rfl) (show kitB "int" "bool" = some false by decide +kernel)))) (fun _ => ?_) fun e => nomatch e
      refine ds_ret (P := fun z => z = .d .none) (er_if (b := true) (et_is (et_B (er_call1 (P := fun s => s = .d (.bool (decide ((0 : Int) ≤ (i : Int) ∧ (i : Int) ≤ (k : Int) - 1)))) ((i : Int), 0, (k : Int) - 1) (ea_cons (er_var rfl rfl) (ea_cons (er_int 0) (ea_cons (er_op (er_var rfl rfl) (er_int 1) rx_sub) ea_nil))) trivial fun s e => e)) (decide_eq_true (by omega))) (fun _ => er_non) fun e => nomatch e) fun s e => e
    | op u x y =>
      obtain ⟨h1, h2⟩ := fdep hp.2
      obtain ⟨l1, l2⟩ := flt hp.1
      refine ds_ifr (b := false && true) (et_and (et_B (er_isi (x := (F.op u x y).d) (er_var rfl rfl) (show kitB "tuple" "int" = some false by decide +kernel))) fun e => nomatch e) (fun e => nomatch e) fun _ => ?_
      refine ds_ifr (b := !true) (et_not (et_B (er_call1 (P := fun s => s = .d (.bool true)) ([.str u.s, x.d, y.d], 3) (ea_cons (er_var rfl rfl) (ea_cons (er_int 3) ea_nil)) trivial fun s e => e))) (fun e => nomatch e) fun _ => ?_
      refine ds_ifr (b := !true) (et_not (et_B (er_call1 (P := fun s => s = .d (.bool true)) (u.s, ["with", "behind", "ahead"]) (ea_cons (er_i0 (wd := u) (a := x) (b := y) (er_var rfl rfl)) (ea_cons (er_words T) ea_nil)) trivial fun s e => by rw [e]; exact congrArg (fun z => Sh.d (.bool z)) (word_in u)))) (fun e => nomatch e) fun _ => ?_
      refine ds_set (er_call1 (P := fun s => s = .d .none) (k, x) (ea_cons (er_var rfl rfl) (ea_cons (er_i1 (wd := u) (a := x) (b := y) (er_var rfl rfl)) ea_nil)) ⟨l1, h1⟩ fun s e => e) ?_
      exact ds_ret (P := fun z => z = .d .none) (er_if (b := true) (et_val (er_op (er_var rfl rfl) er_non rx_isN)) (fun _ => er_call1 (k, y) (ea_cons (er_var rfl rfl) (ea_cons (er_i2 (wd := u) (a := x) (b := y) (er_var rfl rfl)) ea_nil)) ⟨l2, h2⟩ fun s e => e) fun e => nomatch e) fun s e => e
theorem cl_FormulaError (T : Bl K w mg C aW aP) (cP : Cl P w K mg base 10 "part_error" (PPartError K C 8)) (cS : Cl P w K mg base 10 "size" (PSize K C 8)) (d : Df K mg "formula_error" sFormulaError ["names", "value"]) : Cl P w K mg base 11 "formula_error" (PFormulaError K C) :=
  pd_cl d scFormulaError (fun _ => rfl) (fun _ => rfl) fun f cdv A outer s H E a hr hp => ⟨_, dvFormulaError T cP (by omega) cS (by omega) hr, by
    have hd := F.dep_sz a.2
    have h15 := hp.2
    have h8 : a.2.dep < 8 := by omega
    refine ds_set (er_call1 (P := fun s => s = .d .none) a (ea_cons (er_var rfl rfl) (ea_cons (er_var rfl rfl) ea_nil)) ⟨hp.1, h8⟩ fun s e => e) ?_
    refine ds_ifr (b := true && false) (et_and (et_val (er_op (er_var rfl rfl) er_non rx_isN)) fun _ => et_is (et_val (er_op (er_call1 (P := fun s => s = .d (natD a.2.sz)) a.2 (ea_cons (er_var rfl rfl) ea_nil) h8 fun s e => e) (er_int 15) rx_gt)) (decide_eq_false (by omega))) (fun e => nomatch e) fun _ => ?_
    exact ds_ret (er_var rfl rfl) fun s e => e⟩
end
end RD

end
section
set_option linter.all false
set_option maxRecDepth 100000
set_option maxHeartbeats 4000000
/-! X1: enumerate over a tuple. -/
namespace PySem
open Sem (wp)
theorem rd_enum_new {v : Value} {o : Obj} {J : Heap → Prop} (B : Begins v o J) :
    Meets (Builtin.«enumerate.__new__» ⟨[.type "enumerate", v], []⟩) (fun _ R s => J s.heap ∧
      R (.ok (.ret (.ref (s.heap.push o).objs.size))) { s with heap := (s.heap.push o).push { cls := .type "enumerate", data := .fields #[.none, .bool false, .ref s.heap.objs.size, rawInt 0, .none, .none] } }) :=
  .of_wp fun prog w A R s h => by
    obtain ⟨hp, g, d, tk, os⟩ := s
    obtain ⟨h1, h⟩ := h
    have hsub := sub_enumerate
    have q1 : ∀ {A' : Around} {E : Value → Shared → Prop} {Q : Value → Shared → Prop}, Q (.ref hp.objs.size) ⟨hp.push o, g, d, tk, os⟩ → wpAny (model prog w) A' (pyIter v) Q E ⟨hp, g, d, tk, os⟩ :=
      fun q => B.iter prog w _ _ ⟨hp, g, d, tk, os⟩ _ h1 q
    wp_walk using q1
    refine wpAny_stack_any fun st => wpAny_pure ?_
    split
    · rename_i c _ _ _ _ _
      cases (c == Value.type "enumerate") <;> (wp_walk using q1; exact ⟨_, rfl, h⟩)
    · wp_walk using q1
      exact ⟨_, rfl, h⟩
theorem rd_enum_call {prog : Program} {w : World} {A : Around} {E : Value → Shared → Prop} {s : Shared} {v : Value} {o : Obj} {J : Heap → Prop} {Q : Value → Shared → Prop} (B : Begins v o J) (h1 : J s.heap)
    (h : ∀ h', IsEnum h' (s.heap.objs.size + 1) s.heap.objs.size 0 .none → h'.get? s.heap.objs.size = some o →
      (∀ b u, s.heap.get? b = some u → h'.get? b = some u) → Q (.ref (s.heap.objs.size + 1)) { s with heap := h' }) :
    wpAny (model prog w) A (call (.type "enumerate") [v]) Q E s := by
  refine callType_new F.called_enumerate (by decide) (F.typeCall_enumerate_1 _) (F.newCall_enumerate_1 _) (fun obj => F.args_object_init_2 obj _) F.entry_enumerate_new (rd_enum_new B) ⟨h1, ?_⟩
  have hz : (s.heap.push o).objs.size = s.heap.objs.size + 1 := Heap.size_push ..
  show _ ∧ _
  rw [hz]
  have he := Heap.get?_push_size (s.heap.push o) (o := { cls := .type "enumerate", data := .fields #[.none, .bool false, .ref s.heap.objs.size, rawInt 0, .none, .none] }) rfl
  rw [hz] at he
  exact ⟨⟨_, he, rfl⟩, h _ he (Heap.get?_push_of_some _ (Heap.get?_push_size _ B.free)) fun b u x => Heap.get?_push_of_some _ (Heap.get?_push_of_some _ x)⟩
end PySem
namespace RD
open PySem PySem.Spec PyProof.Rows L2
/-- the tuple at a as it stands, each item in a new pair with its number -/
def IteT (K : PySem.W.Frag) (a : Addr) : It where
  go i H := ∃ (xs : List V) (x : V), SqT K H a xs ∧ xs[i]? = some x
  yld i H v H' := ∃ T x, v = .ref T ∧ H T = none ∧ H' = upd H T (.tup [.int (i : Nat), x]) ∧ ∀ xs, SqT K H a xs → xs[i]? = some x
  stop i H := ∃ xs : List V, SqT K H a xs ∧ xs.length = i
theorem turn_enumT {P : Program} {w : World} {K : PySem.W.Frag} {elts : List Expr} {kk : Nat} {tpos : Pos} (a e it : Addr) (hei : e ≠ it) (hea : e ≠ a) (hai : a ≠ it) :
    Turn P w K (.Tuple elts kk tpos) (IteT K a) [e, it] e (fun i h => (∃ old, IsEnum h e it ((i : Nat) : Int) old) ∧ h.IsTupleIter it a i) where
  mem := by simp
  obj := fun i h st b hb => by
    obtain ⟨⟨old, he⟩, o, ho, hc, hd⟩ := st
    rcases List.mem_cons.mp hb with z | z
    · rw [z]
      exact ⟨_, he, fun v q => nomatch q⟩
    · rw [List.mem_singleton.mp z]
      exact ⟨o, ho, fun v q => by rw [hd] at q; cases q⟩
  keep := fun i h h' st k => ⟨st.1.imp fun old he => k e (by simp) _ he, st.2.at fun o q => k it (by simp) o q⟩
  item := by
    intro X hP hw hK hc i pins s σ H E I hf st hg
    subst hP hw hK
    obtain ⟨⟨old, he⟩, hit⟩ := st
    obtain ⟨xs, x, hq, hx⟩ := hg
    obtain ⟨its, rv, p, hz⟩ := I.tuple hq
    obtain ⟨u, hu, ru⟩ := rv.get hx
    have pt : s.heap.IsTuple a its.toArray := p
    have hel : e < s.heap.objs.size := Heap.lt_size he
    have hil : it < s.heap.objs.size := by
      obtain ⟨_, q, _⟩ := hit
      exact Heap.lt_size q
    have hlt : i < its.toArray.size := by
      have := (List.getElem?_eq_some_iff.mp hu).1
      simpa using this
    refine wpAny_pyNext_enum_itemD (Draws.tuple (A := X.A.in1) (I.ok.hd hc) it a hai its.toArray) he ⟨hit, pt⟩ hlt hei (by simp [hei, hea]) fun y h' tk hP ho hit' hT hsz hk => ?_
    have ey : y = u := by
      have h1 : its.toArray[i]? = some y := hP
      have h2 : its.toArray[i]? = some u := by simpa using hu
      rw [h1] at h2
      exact Option.some.inj h2
    subst ey
    refine ⟨_, rfl, wpAny_letOwnedTupleGo_enum (s := { s with heap := h', toks := tk + 1 }) ho fun h'' he' sb => ?_⟩
    have hT2 : h''.get? s.heap.objs.size = some { cls := .type "tuple", data := .seq #[.int i tk, y] } := (sb.2 _ (Nat.ne_of_gt hel)).trans hT
    have new : ObjOk X.prog X.w (upd H s.heap.objs.size (.tup [.int (i : Nat), x])) h'' s.heap.objs.size (.tup [.int (i : Nat), x]) :=
      ⟨by show 2 ≤ sizeLine; decide, [.int i tk, y], .cons ⟨_, rfl⟩ (.cons ru .nil), ⟨_, hT2, rfl, _, rfl⟩⟩
    have I1 : Inv X pins σ (upd H s.heap.objs.size (.tup [.int (i : Nat), x])) { s with heap := h'', toks := tk + 1 } :=
      I.turnedNew (ch := [e, it]) (fun b ob hb q => (sb.2 b (fun z => hb (by simp [z]))).trans (hk b ob (fun z => hb (by simp [z])) (fun z => hb (by simp [z])) q)) hf (Nat.le_refl _) new
    refine ⟨.ref s.heap.objs.size, _, I1, rfl, ⟨_, x, rfl, I.hok.fresh (Nat.le_refl _), rfl, fun ys hy => by rw [I.tuple_inj hy hq]; exact hx⟩, ⟨⟨y, ?_⟩, hit'.1.at fun o q => (sb.2 it (Ne.symm hei)).trans q⟩, fun b hb => ?_⟩
    · have e1 : ((i + 1 : Nat) : Int) = (i : Int) + 1 := by omega
      rw [e1]
      exact he'
    · have hb' : b < s.heap.objs.size := by
        rcases List.mem_cons.mp hb with z | z
        · rw [z]; exact hel
        · rw [List.mem_singleton.mp z]; exact hil
      rw [upd_ne (Nat.ne_of_lt hb')]
      exact (hf b hb).1
  done := by
    intro X hP hw hK hc i pins s σ H E I hf st hg
    subst hP hw hK
    obtain ⟨⟨old, he⟩, hit⟩ := st
    obtain ⟨xs, hq, hx⟩ := hg
    obtain ⟨its, rv, p, hz⟩ := I.tuple hq
    have pt : s.heap.IsTuple a its.toArray := p
    obtain ⟨f0, f1, f2, f3, f4, f5⟩ := hf it (by simp)
    have hl := rv.length
    have ei : i = its.toArray.size := by rw [List.size_toArray, ← hl, hx]
    have D := Draws.tuple (prog := X.prog) (w := X.w) (A := X.A.in1) (I.ok.hd hc) it a hai its.toArray
    rw [← ei] at D
    exact wpAny_pyNext_enum_endD D he ⟨hit, pt⟩ fun h' eb => ⟨rfl, I.turned (t' := s.toks) (fun b o hb q => eb b o hb q) f0 f1 f3 f4 f5⟩
  self := fun A i s Q E st h => let ⟨⟨_, he⟩, _⟩ := st; wpAny_pyIter_enum he h
def iEnumT (K : PySem.W.Frag) (ta : TA) : TI := fun σ H R => ta σ H fun vs H1 => ∃ a xs, vs = [.ref a] ∧ SqT K H1 a xs ∧ R (IteT K a) H1
theorem pi_enumT {X : Cx} {e : Expr} {ta : TA} {p pos tpos : Pos} {elts : List Expr} {kk : Nat} (hg : Gl X "enumerate") (hm : X.mg "enumerate" = none) (ha : PA X [e] ta) (hs : starEach [e] X.env = [(false, eval e X.env)] := by rfl) :
    PI X (.Tuple elts kk tpos) (.Call (.Name "enumerate" p) [e] [] pos) (iEnumT X.K ta) := by
  refine ⟨fun pins s σ H R I h => ?_⟩
  refine Call_ (ld_blt I hg hm boot_enumerate (PyProof.Rows.callWith_type1 (thn (ha.run pos pins s σ H _ I h) fun us s1 ⟨vs, H1, I1, r1, q1⟩ => ?_) hs rfl))
  obtain ⟨a, xs, ex, hq, q⟩ := q1
  subst ex
  cases r1 with
  | cons r rr =>
    cases rr
    cases r
    obtain ⟨its, rv, p', hz⟩ := I1.tuple hq
    have pt : s1.heap.IsTuple a its.toArray := p'
    have hal : a < s1.heap.objs.size := p'.lt
    refine rd_enum_call (begins_tuple a its.toArray) pt fun h' he hit hk => wpAny_pyIter_enum he ?_
    have I2 : Inv X pins σ H1 { s1 with heap := h' } := I1.kept (t' := s1.toks) hk
    refine ⟨s1.heap.objs.size + 1, [s1.heap.objs.size + 1, s1.heap.objs.size], _, _, H1, rfl, I2, turn_enumT a (s1.heap.objs.size + 1) s1.heap.objs.size (Nat.succ_ne_self _) (Nat.ne_of_gt (Nat.lt_succ_of_lt hal)) (Nat.ne_of_lt hal), ⟨⟨.none, he⟩, _, hit, rfl, rfl⟩, fun b hb => ?_, q⟩
    have hle : s1.heap.objs.size ≤ b := by
      rcases List.mem_cons.mp hb with z | z
      · rw [z]; exact Nat.le_add_right _ _
      · rw [List.mem_singleton.mp z]; exact Nat.le_refl _
    exact I1.fpOk hle (I1.hok.fresh hle)
end RD

end
section
set_option linter.all false
set_option maxRecDepth 100000
set_option maxHeartbeats 4000000
/-! X2: walks over a written dict, slices backwards, repr of data. -/
namespace RD
open PySem PySem.Spec PyProof.Rows L2 HT

/-! ### for k in a dict of the module -/
def KKeys (K : PySem.W.Frag) (d : Addr) (ks : List V) : Prop := ∃ es ep, K.lookup d = some ⟨.type "dict", none, .dict es ep, #[]⟩ ∧ (d == sysModules) = false ∧ es.size = ks.length ∧ ∀ (i : Nat) k, ks[i]? = some k → ∃ en : DictEntry, es[i]? = some en ∧ RelV k en.key
def IteK (ks : List V) : It where
  go i _ := i < ks.length
  yld i H x H' := H' = H ∧ ks[i]? = some x
  stop i _ := i = ks.length
theorem turn_kkeys {P : Program} {w : World} {K : PySem.W.Frag} {tg : Expr} {d : Addr} {ks : List V} {es : Array DictEntry} {ep : Nat} (it : Addr) (hl : K.lookup d = some ⟨.type "dict", none, .dict es ep, #[]⟩) (hz : es.size = ks.length)
    (hk : ∀ (i : Nat) k, ks[i]? = some k → ∃ en : DictEntry, es[i]? = some en ∧ RelV k en.key) : Turn P w K tg (IteK ks) [it] it (fun i h => h.IsKeyIter it d i ks.length ep) where
  mem := by simp
  obj := fun i h st b hb => by
    have e : b = it := by simpa using hb
    subst e
    obtain ⟨oi, e, c, dd⟩ := st
    exact ⟨oi, e, fun v z => by rw [dd] at z; cases z⟩
  keep := fun i h h' st k => st.at fun oi e => k it (by simp) oi e
  item := by
    intro X hP hw hK hc i pins s σ H E I hf st hg
    subst hP hw hK
    obtain ⟨f0, f1, f2, f3, f4, f5⟩ := hf it (by simp)
    obtain ⟨k, ek⟩ : ∃ k, ks[i]? = some k := ⟨ks[i]'hg, List.getElem?_eq_getElem hg⟩
    obtain ⟨en, he, rk⟩ := hk i k ek
    refine next_key_item st (I.kIn _ _ hl) rfl hz he fun h' st' sb => ?_
    have I1 : Inv X pins σ H { s with heap := h' } := I.turned (t' := s.toks) (fun b ob hb e => (sb.2 b hb).trans e) f0 f1 f3 f4 f5
    obtain ⟨oi, e, c, dd⟩ := id st'
    exact ⟨en.key, rfl, go_of (s := { s with heap := h' }) e c dd (by decide) ⟨k, H, I1, rk, ⟨rfl, ek⟩, st', fun b hb => (hf b hb).1⟩⟩
  done := by
    intro X hP hw hK hc i pins s σ H E I hf st hg
    subst hP hw hK
    obtain ⟨f0, f1, f2, f3, f4, f5⟩ := hf it (by simp)
    exact next_key_end (I.ok.hd hc) st (I.kIn _ _ hl) rfl hz (Nat.le_of_eq hg.symm) fun h' eb => ⟨rfl, I.turned (t' := s.toks) (fun b ob hb e => eb b ob hb e) f0 f1 f3 f4 f5⟩
  self := fun A i s Q E st h => wpAny_pyIter_keyiter st h
def iKKeys (K : PySem.W.Frag) (te : TE) : TI := fun σ H R => te σ H fun x H1 => ∃ d ks, x = .ref d ∧ KKeys K d ks ∧ R (IteK ks) H1
theorem pi_kkeys {X : Cx} {tg e : Expr} {te : TE} (he : PE X e te) : PI X tg e (iKKeys X.K te) := by
  refine ⟨fun pins s σ H R I h => ?_⟩
  refine thn (he.run pins s σ H _ I h) fun u s1 ⟨x, H1, I1, rx, d, ks, ex, ⟨es, ep, hl, hd, hz, hk⟩, q⟩ => ?_
  subst ex
  cases rx
  refine iter_keys hd (I1.kIn _ _ hl) ⟨rfl, rfl, rfl⟩ rfl (pi_one (tk := s1.toks) I1 _ (turn_kkeys _ hl hz hk) ⟨_, Heap.get?_push_size _ rfl, rfl, ?_⟩ q)
  rw [hz] <;> rfl

/-! ### t[::-1] of a tuple -/
section
variable {prog : Program} {w : World} {A : Around} {E : Value → Shared → Prop} {s : Shared}
theorem fm_congr {α β : Type} {f g : α → Option β} : ∀ {l : List α}, (∀ a ∈ l, f a = g a) → l.filterMap f = l.filterMap g
  | [], _ => rfl
  | a :: l, h => by rw [List.filterMap_cons, List.filterMap_cons, h a List.mem_cons_self, fm_congr fun b hb => h b (List.mem_cons_of_mem _ hb)]
theorem back_pick (items : Array Value) : ((List.range items.size).filterMap fun (k : Nat) => items[(((items.size : Int) - 1) + (k : Int) * (-1)).toNat]?).toArray = items.toList.reverse.toArray := by
  have e : ((List.range items.size).filterMap fun (k : Nat) => items[(((items.size : Int) - 1) + (k : Int) * (-1)).toNat]?) = ((List.range items.size).map fun k => items.size - 1 - k).filterMap (items[·]?) := by
    rw [List.filterMap_map]
    refine fm_congr fun k hk => ?_
    have hk := List.mem_range.mp hk
    have e1 : (((items.size : Int) - 1) + (k : Int) * (-1)).toNat = items.size - 1 - k := by omega
    show items[_]? = items[_]?
    rw [e1]
  rw [e, PySem.W.krv_range, List.filterMap_reverse, PySem.W.krv_all]
theorem tuple_back {t sl : Addr} {items : Array Value} {vs : Value} {Q : Value → Shared → Prop} (ht : IsTup s.heap t items) (hs : s.heap.IsSliceOf sl .none .none vs) (ps : IsPart vs (some (-1)))
    (h : Q (.ref s.heap.objs.size) { s with heap := s.heap.push { cls := .type "tuple", data := .seq items.toList.reverse.toArray } })
    (hsz : items.size ≤ sizeLine) : wpAny (model prog w) A (getItem (.ref t) (.ref sl)) Q E s := by
  have htake : sizeOk (.seq items.toList.reverse.toArray) := by
    show items.toList.reverse.toArray.size ≤ sizeLine
    rw [List.size_toArray, List.length_reverse, Array.length_toList]
    exact hsz
  obtain ⟨os, hos, hcs, hds⟩ := id hs
  have hTs : s.TypeIs (.ref sl) "slice" := ⟨os, hos, hcs⟩
  unfold getItem
  try with_reducible refine wpAny_holding ?_
  first | refine wpAny_bind (wpAny_pure ?_) | skip
  refine wpAny_bind (wpAny_sequenceKey ht.typeIs (by decide) ?_)
  refine wpAny_bind (wpAny_callSpecial?_slot (name := Str.ofString "__getitem__") ht.typeIs PyProof.Rows.slot_tuple_getitem
    (wpAny_call_entry PyProof.Rows.slot_tuple_getitem ht.typeIs entry_tuple_getitem ?_ (args_tuple_getitem _ _)))
  show wpAny _ _ (Builtin.Tuple.tupleItemsOf (.ref t) >>= _) _ _ s
  refine wpAny_bind (tupleItemsOf_ ht ?_)
  refine wpAny_bind (wpAny_typeOf hTs ?_)
  rw [if_pos (by decide)]
  refine wpAny_bind ?_
  unfold Builtin.Slice.sliceApplied Builtin.Slice.sliceFields
  refine wpAny_bind (wpAny_bind (wpAny_field hos hds (x := .none) rfl (wpAny_bind (wpAny_field hos hds (x := .none) rfl (wpAny_bind (wpAny_field hos hds (x := vs) rfl (wpAny_pure ?_)))))))
  refine wpAny_bind (slicePart_ ps ?_)
  show wpAny _ _ (if ((-1 : Int) == 0) = true then _ else _) _ _ s
  rw [if_neg (by decide)]
  refine wpAny_bind (slicePart_none (wpAny_bind (slicePart_none (wpAny_bind (wpAny_pure ?_)))))
  have ea : Builtin.Slice.sliceAdjust none none (-1) (items.size : Int) = ((items.size : Int) - 1, -1) := rfl
  have ep : Builtin.Slice.slicePlaces ((items.size : Int) - 1) (-1) (-1) = items.size := by
    unfold Builtin.Slice.slicePlaces
    rw [if_neg (show ¬ ((-1 : Int) > 0) by decide)]
    have e1 : (- -1 : Int) = 1 := by decide
    rw [e1, Int.ediv_one]
    by_cases q : (items.size : Int) - 1 > -1
    · rw [if_pos q]
      omega
    · rw [if_neg q]
      omega
  show wpAny _ _ (match Builtin.Slice.sliceAdjust none none (-1) (items.size : Int) with | (lo, hi) => pure (lo, (-1 : Int), Builtin.Slice.slicePlaces lo hi (-1))) _ _ s
  rw [ea]
  show wpAny _ _ (pure ((items.size : Int) - 1, (-1 : Int), Builtin.Slice.slicePlaces ((items.size : Int) - 1) (-1) (-1))) _ _ s
  rw [ep]
  refine wpAny_pure ?_
  have hno : ¬ ((((items.size : Int) - 1) == 0 && (-1 : Int) == 1 && items.size == items.size) = true) := by
    have : ((-1 : Int) == 1) = false := by decide
    rw [this, Bool.and_false, Bool.false_and]
    exact Bool.false_ne_true
  show wpAny _ _ (if (((items.size : Int) - 1) == 0 && (-1 : Int) == 1 && items.size == items.size) = true then _ else _) _ _ s
  rw [if_neg hno, back_pick]
  first
    | exact wpAny_bind (m := Builtin.Tuple.tupleExact _) (wpAny_newObj_type (wpAny_pure ⟨_, rfl, wpAny_pure h⟩) htake)
    | exact wpAny_bind (m := Builtin.Tuple.tupleExact _) (wpAny_newObj_type (wpAny_bind (wpAny_pure (wpAny_pure ⟨_, rfl, wpAny_pure h⟩))) htake)
    | exact wpAny_bind (wpAny_bind (m := Builtin.Tuple.tupleExact _) (wpAny_newObj_type (wpAny_pure (wpAny_pure ⟨_, rfl, wpAny_pure h⟩)) htake))
    | exact wpAny_bind (wpAny_bind (m := Builtin.Tuple.tupleExact _) (wpAny_newObj_type (wpAny_pure ⟨_, rfl, wpAny_pure h⟩) htake))
end
def tRevT (K : PySem.W.Frag) (te : TE) : TE := fun σ H Q => te σ H fun x H1 => ∃ a xs, x = .ref a ∧ SqT K H1 a xs ∧ ∀ p, H1 p = none → Q (.ref p) (upd H1 p (.tup xs.reverse))
theorem pe_revT {X : Cx} {e : Expr} {te : TE} {k : Nat} {p1 p2 p3 pos : Pos} (he : PE X e te) : PE X (.Subscript e (.Slice none none (some (.UnaryOp .USub (.Constant (.int 1) k p1) p2)) p3) pos) (tRevT X.K te) := by
  refine ⟨fun pins s σ H Q I h => ?_⟩
  refine Subscript_ (thn (he.run pins s σ H _ I h) fun v s1 ⟨x, H1, I1, r1, q1⟩ => ?_)
  obtain ⟨a, xs, ex, hx, q⟩ := q1
  subst ex
  cases r1
  have hst : PO X (some (.UnaryOp .USub (.Constant (.int 1) k p1) p2)) (tPart (tUn (rU fun i => .int (-i)) (tC (.int 1)))) := po_some (pe_un un_neg pe_int)
  refine wpAny_Slice ?_
  rw [evalPart_none]
  refine wpAny_pure (wpAny_pure ?_)
  refine thn (hst.run pins s1 σ H1 (fun o H4 => o = some (-1) ∧ H4 = H1) I1 ⟨1, rfl, -1, rfl, rfl, rfl⟩) fun vs s4 ⟨o, H4, I4, ps, eo, e4⟩ => ?_
  subst eo e4
  have I5 : Inv X pins σ H4 { s4 with heap := s4.heap.push { cls := .type "slice", data := .fields #[.none, .none, vs] } } := I4.kept (t' := s4.toks) fun b ob q => Heap.get?_push_of_some _ q
  obtain ⟨its, r, ht, hz⟩ := I5.tuple hx
  have hlen := r.length
  show wpAny (model X.prog X.w) X.A (subscriptTail e (.Slice none none (some (.UnaryOp .USub (.Constant (.int 1) k p1) p2)) p3) (.ref a) (.ref s4.heap.objs.size)) (EP X pins σ Q) X.xe { s4 with heap := s4.heap.push { cls := .type "slice", data := .fields #[.none, .none, vs] } }
  refine tail_any (ops := [.ref a, .ref s4.heap.objs.size]) ht.typeIs (PyProof.Rows.slot_tuple_getitem.lookup) ?_ (by with_unfolding_all rfl)
  refine tuple_back ht (Heap.IsSliceOf.new _ .none .none vs) ps ?_ (by rw [List.size_toArray]; omega)
  refine ⟨.ref _, _, I5.laid (t' := s4.toks) (o := .tup xs.reverse) (fun b ob q => Heap.get?_push_of_some _ q) (Nat.le_refl _) ?_, rfl, q _ (I5.hok.fresh (Nat.le_refl _))⟩
  exact ⟨by rw [List.length_reverse]; exact hz, _, r.reverse, IsTup.new _ _⟩

/-! ### xs[-2::-1] of a list -/
theorem back2_pick (items : Array Value) : slicePick items (some (-2)) none (some (-1)) = items.toList.dropLast.reverse.toArray := by
  unfold slicePick
  by_cases h0 : items.size = 0
  · have e : items = #[] := Array.eq_empty_of_size_eq_zero h0
    subst e
    rfl
  · have eb : sliceBounds (some (-2)) none (some (-1)) items.size = ((items.size : Int) - 2, -1, -1) := by
      unfold sliceBounds
      show (max (-1) (min ((-2 : Int) + items.size) ((items.size : Int) - 1)), _, _) = _
      have : max (-1) (min ((-2 : Int) + items.size) ((items.size : Int) - 1)) = (items.size : Int) - 2 := by omega
      rw [this] <;> rfl
    rw [eb]
    show ((sliceRange ((items.size : Int) - 2) (-1) (-1)).filterMap (items[·]?)).toArray = _
    obtain ⟨n, en⟩ : ∃ n, items.size = n + 1 := ⟨items.size - 1, by omega⟩
    have e2 : (items.size : Int) - 2 = (n : Int) - 1 := by omega
    rw [e2, PySem.W.krv_sliceRange, PySem.W.krv_range, List.filterMap_reverse]
    have e3 : (List.range n).filterMap (items[·]?) = items.toList.dropLast := by
      have := pick_run items 0 n
      rw [List.drop_zero] at this
      rw [show ((0 + ·) : Nat → Nat) = id from funext fun k => Nat.zero_add k, List.map_id] at this
      rw [this, List.dropLast_eq_take, Array.length_toList, en] <;> rfl
    rw [e3]
def tBackL (K : PySem.W.Frag) (te : TE) (tl : TO) : TE := fun σ H Q => te σ H fun x H1 => tl σ H1 fun o H2 => o = some (-2) ∧ ∃ a xs, x = .ref a ∧ SqL K H2 a xs ∧ ∀ p, H2 p = none → Q (.ref p) (upd H2 p (.lst xs.dropLast.reverse))
theorem pe_backL {X : Cx} {e : Expr} {lo : Option Expr} {te : TE} {tl : TO} {k : Nat} {p1 p2 p3 pos : Pos} (he : PE X e te) (hl : PO X lo tl) (hp : ∀ (o i : Value), subscripted (.Slice lo none (some (.UnaryOp .USub (.Constant (.int 1) k p1) p2)) p3) false o i = operate [o, i] (getItem o i) := by intro _ _; rfl) :
    PE X (.Subscript e (.Slice lo none (some (.UnaryOp .USub (.Constant (.int 1) k p1) p2)) p3) pos) (tBackL X.K te tl) := by
  refine ⟨fun pins s σ H Q I h => ?_⟩
  refine Subscript_ (thn (he.run pins s σ H _ I h) fun v s1 ⟨x, H1, I1, r1, q1⟩ => ?_)
  have hst : PO X (some (.UnaryOp .USub (.Constant (.int 1) k p1) p2)) (tPart (tUn (rU fun i => .int (-i)) (tC (.int 1)))) := po_some (pe_un un_neg pe_int)
  refine wpAny_Slice (thn (hl.run pins s1 σ H1 _ I1 q1) fun vl s2 ⟨l, H2, I2, pl, q2⟩ => ?_)
  obtain ⟨el, a, xs, ex, hx, q⟩ := q2
  subst el ex
  cases r1
  rw [evalPart_none]
  refine wpAny_pure ?_
  refine thn (hst.run pins s2 σ H2 (fun o H4 => o = some (-1) ∧ H4 = H2) I2 ⟨1, rfl, -1, rfl, rfl, rfl⟩) fun vs s4 ⟨o, H4, I4, ps, eo, e4⟩ => ?_
  subst eo e4
  have I5 : Inv X pins σ H4 { s4 with heap := s4.heap.push { cls := .type "slice", data := .fields #[vl, .none, vs] } } := I4.kept (t' := s4.toks) fun b ob q => Heap.get?_push_of_some _ q
  obtain ⟨its, r, ht, hz⟩ := I5.list hx
  have hlen := r.length
  show wpAny (model X.prog X.w) X.A (subscriptTail e (.Slice lo none (some (.UnaryOp .USub (.Constant (.int 1) k p1) p2)) p3) (.ref a) (.ref s4.heap.objs.size)) (EP X pins σ Q) X.xe { s4 with heap := s4.heap.push { cls := .type "slice", data := .fields #[vl, .none, vs] } }
  refine tail_any (ops := [.ref a, .ref s4.heap.objs.size]) ht.isList.typeIs (PySem.slot_list_getitem.lookup) ?_ (hp _ _)
  refine wpAny_getItem_list_slice ht.isList (Heap.IsSliceOf.new _ vl .none vs) pl .none ps (by decide) ?_ (by rw [List.size_toArray]; omega)
  rw [back2_pick]
  refine ⟨.ref _, _, I5.laid (t' := s4.toks) (o := .lst xs.dropLast.reverse) (fun b ob q => Heap.get?_push_of_some _ q) (Nat.le_refl _) ?_, rfl, q _ (I5.hok.fresh (Nat.le_refl _))⟩
  refine ⟨by rw [List.length_reverse, List.length_dropLast]; omega, _, 0, Vals.reverse (Vals.dropLast r), Heap.get?_push_size _ rfl⟩

/-! ### repr of data -/
def rRepr (K : PySem.W.Frag) : List V → Hp → VK → Prop := fun xs H Q => ∃ x d, xs = [x] ∧ Dp K H x d ∧ ((∃ a, x = .ref a) ∧ d.showable = true ∧ d.hasDict = false ∧ d.depth ≤ 60 ∧ d.shown.length ≤ sizeLine ∧ Q (.str d.shown) H ∨ x = .non ∧ Q (.str "None") H)
theorem cr_repr {X : Cx} {k : Nat} (hg : X.A.guards = some []) (hr : Room k X.A) : CallR X (.builtin "repr") (rRepr X.K) := by
  intro pins s σ H xs us Q I r h
  obtain ⟨x, d, rfl, hd, h⟩ := h
  obtain ⟨u, rfl, ru⟩ := vals1 r
  rcases h with ⟨⟨a, rfl⟩, h1, h2, h3, h4, q⟩ | ⟨rfl, q⟩
  · cases ru
    obtain ⟨as, rd⟩ := Dp.reads I d _ _ hd rfl
    have hu : X.A.units + (d.depth + 1) < cLine := by have := hr.units; omega
    exact repr_of_reads' rd h1 (PyData.noDict_hsm h2) hg hu (fun _ _ e => e) (fun h' u tk hk => ⟨.str d.shown, H, I.kept hk, ⟨_, rfl⟩, q⟩) h4
  · cases ru
    refine P.repr_of_none ?_
    exact ⟨.str "None", H, I.kept (t' := s.toks + 1) (fun _ _ e => e), ⟨_, rfl⟩, q⟩
end RD

end
section
set_option linter.all false
set_option maxRecDepth 100000
set_option maxHeartbeats 4000000
/-! M2: what a closing is; that there is but one. -/
namespace RD
open PySem PySem.Spec PyProof.Rows L2
abbrev Ent := Nat × Nat × Nat
def img (t : Nat → Nat) (e : Ent) : Ent := (t e.1, t e.2.1, t e.2.2)
theorem pl_img (w : Wd) (t : Nat → Nat) (e : Ent) : pl w (img t e) = img t (pl w e) := by
  obtain ⟨x, y, z⟩ := e
  cases w <;> rfl
def Closed (es : List Ent) (t : Nat → Nat) : Prop := ∀ w, ∀ e ∈ es, ∀ e' ∈ es, t (pl w e).1 = t (pl w e').1 → t (pl w e).2.1 = t (pl w e').2.1 → t (pl w e).2.2 = t (pl w e').2.2
structure IsRoot (es : List Ent) (p : Nat → Nat) : Prop where
  le : ∀ x, p x ≤ x
  idem : ∀ x, p (p x) = p x
  closed : Closed es p
  sound : ∀ t, Closed es t → ∀ x, t (p x) = t x
theorem IsRoot.uniq {es : List Ent} {p q : Nat → Nat} (h1 : IsRoot es p) (h2 : IsRoot es q) : p = q := by
  funext x
  have a : p (q x) = p x := h2.sound p h1.closed x
  have b : q (p x) = q x := h1.sound q h2.closed x
  have c := h1.le (q x)
  have d := h2.le (p x)
  omega
def IsRows (es : List Ent) (p : Nat → Nat) (R : List Ent) : Prop := ∀ r, r ∈ R ↔ ∃ e ∈ es, r = img p e
theorem tell_some {R : List Ent} {w : Wd} {a b c : Nat} (h : tell R w a b = some c) : ∃ r ∈ R, pl w r = (a, b, c) := by
  induction R with
  | nil => cases h
  | cons r R ih =>
    unfold tell at h
    split at h
    · rename_i g
      refine ⟨r, List.mem_cons_self, ?_⟩
      cases h
      rw [← g.1, ← g.2]
    · obtain ⟨r', h1, h2⟩ := ih h
      exact ⟨r', List.mem_cons_of_mem _ h1, h2⟩
theorem tell_none {R : List Ent} {w : Wd} {a b : Nat} (h : tell R w a b = none) : ∀ r ∈ R, ∀ c, pl w r ≠ (a, b, c) := by
  induction R with
  | nil => intro r hr; cases hr
  | cons r R ih =>
    unfold tell at h
    split at h
    · cases h
    · rename_i g
      intro r' hr c e
      rcases List.mem_cons.mp hr with z | z
      · subst z
        exact g ⟨by rw [e], by rw [e]⟩
      · exact ih h r' z c e
structure IsKn (es : List Ent) (k : Kn) : Prop where
  root : IsRoot es k.rt
  rows : ∃ R, IsRows es k.rt R ∧ k.tl = tell R
theorem rows_fun {es : List Ent} {p : Nat → Nat} {R : List Ent} (h : IsRoot es p) (hR : IsRows es p R) {w : Wd} {a b c c' : Nat} {r r' : Ent} (h1 : r ∈ R) (h2 : r' ∈ R) (e1 : pl w r = (a, b, c)) (e2 : pl w r' = (a, b, c')) : c = c' := by
  obtain ⟨e, he, rfl⟩ := (hR r).mp h1
  obtain ⟨e', he', rfl⟩ := (hR r').mp h2
  rw [pl_img] at e1 e2
  have a1 : p (pl w e).1 = a := congrArg (·.1) e1
  have a2 : p (pl w e').1 = a := congrArg (·.1) e2
  have b1 : p (pl w e).2.1 = b := congrArg (·.2.1) e1
  have b2 : p (pl w e').2.1 = b := congrArg (·.2.1) e2
  have c1 : p (pl w e).2.2 = c := congrArg (·.2.2) e1
  have c2 : p (pl w e').2.2 = c' := congrArg (·.2.2) e2
  rw [← c1, ← c2]
  exact h.closed w e he e' he' (by rw [a1, a2]) (by rw [b1, b2])
theorem tell_same {es : List Ent} {p : Nat → Nat} {R R' : List Ent} (h : IsRoot es p) (hR : IsRows es p R) (hR' : IsRows es p R') : tell R = tell R' := by
  funext w a b
  cases e : tell R w a b with
  | none =>
    cases e' : tell R' w a b with
    | none => rfl
    | some c =>
      obtain ⟨r, h1, h2⟩ := tell_some e'
      exact absurd h2 (tell_none e r ((hR r).mpr ((hR' r).mp h1)) c)
  | some c =>
    obtain ⟨r, h1, h2⟩ := tell_some e
    have h1' := (hR' r).mpr ((hR r).mp h1)
    cases e' : tell R' w a b with
    | none => exact absurd h2 (tell_none e' r h1' c)
    | some c' =>
      obtain ⟨r', g1, g2⟩ := tell_some e'
      rw [rows_fun h hR' h1' g1 h2 g2]
theorem IsKn.uniq {es : List Ent} {k k' : Kn} (h : IsKn es k) (h' : IsKn es k') : k = k' := by
  have e := h.root.uniq h'.root
  obtain ⟨R, h1, h2⟩ := h.rows
  obtain ⟨R', g1, g2⟩ := h'.rows
  rw [← e] at g1
  have q := tell_same h.root h1 g1
  cases k
  cases k'
  simp only at e h2 g2
  rw [e, h2, g2, q]
/-- a closed closing of the facts -/
structure IsClo (fc : Fc) (c : Clo) : Prop where
  down : Down c.el
  len : c.el.length = fc.n
  root : IsRoot fc.es c.rt
  rows : IsRows fc.es c.rt c.rows
theorem IsClo.kn {fc : Fc} {c : Clo} (h : IsClo fc c) : IsKn fc.es c.kn := ⟨h.root, c.rows, h.rows, rfl⟩
theorem IsClo.kn_eq {fc : Fc} {c c' : Clo} (h : IsClo fc c) (h' : IsClo fc c') : c.kn = c'.kn := h.kn.uniq h'.kn
structure FcOk (fc : Fc) : Prop where
  n1 : 1 ≤ fc.n
  n8 : fc.n ≤ 8
  es : ∀ e ∈ fc.es, e.1 < fc.n ∧ e.2.1 < fc.n ∧ e.2.2 < fc.n
  el : fc.es.length ≤ 10
  un : ∀ p ∈ fc.un, p.1 < fc.n ∧ p.2 < fc.n
  ul : fc.un.length ≤ 4
def NoClash (fc : Fc) : Prop := ∀ p, IsRoot fc.es p → ∀ q ∈ fc.un, p q.1 ≠ p q.2
/-- one after another -/
def Walk (q : F → F → Bool) (l : List F) : Prop := ∀ (i : Nat) x y, l[i]? = some x → l[i + 1]? = some y → q x y = true
def roadD : Option (List F) → PyData
  | none => .none
  | some l => .tuple (l.map F.d)
section
variable (K : PySem.W.Frag) (C : Addr)
abbrev Pm {α : Type} (pre : α → Prop) (args : α → List Sh) (res : α → Sh → Prop) : Sp := Pr K C (fun _ => none) pre args res
def PClosingOf : Sp := Pm K C (fun a : Fc => FcOk a) (fun a => [.d a.d]) (fun a s => ∃ c, s = .clo c ∧ IsClo a c)
def PTornBy : Sp := PD K C (fun a : Fc × Clo => FcOk a.1 ∧ IsClo a.1 a.2 ∧ NoClash a.1) (fun a => [.d a.1.d, .clo a.2]) (fun _ => .none)
def PClash : Sp := PD K C (fun a : Fc => FcOk a ∧ NoClash a) (fun a => [.d a.d]) (fun _ => .none)
def PClosed : Sp := Pm K C (fun a : Fc => FcOk a ∧ NoClash a) (fun a => [.d a.d]) (fun a s => ∃ c, s = .clo c ∧ IsClo a c)
def FOk (n : Nat) (f : F) : Prop := f.lt n = true ∧ f.sz ≤ 15
def PSteps : Sp := Pm K C (fun a : Fc × Clo × F => FcOk a.1 ∧ IsClo a.1 a.2.1 ∧ FOk a.1.n a.2.2) (fun a => [.clo a.2.1, .d a.2.2.d]) (fun a s => s = .tl ((steps a.2.1.kn a.2.2).map F.d))
abbrev preFF (a : Fc × F × F) : Prop := FcOk a.1 ∧ NoClash a.1 ∧ FOk a.1.n a.2.1 ∧ FOk a.1.n a.2.2
def PSame : Sp := Pm K C preFF (fun a => [.d a.1.d, .d a.2.1.d, .d a.2.2.d]) (fun a s => ∃ c, IsClo a.1 c ∧ s = .d (.bool (decide (lastF c.kn a.2.1 = lastF c.kn a.2.2))))
def PRoad : Sp := Pm K C preFF (fun a => [.d a.1.d, .d a.2.1.d, .d a.2.2.d]) (fun a s => ∃ c, IsClo a.1 c ∧ s = .d (roadD (roadF c.kn a.2.1 a.2.2)))
def PIsMove : Sp := PD K C (fun a : Clo × F × F => a.1.fit a.2.1 ∧ a.1.fit a.2.2 ∧ a.2.1.dep ≤ 40 ∧ a.2.2.dep ≤ 40) (fun a => [.clo a.1, .d a.2.1.d, .d a.2.2.d]) (fun a => .bool (isMove a.1.kn a.2.1 a.2.2))
def PIsStep (n : Nat) : Sp := PD K C (fun a : Clo × F × F => a.1.fit a.2.1 ∧ a.1.fit a.2.2 ∧ a.2.1.dep ≤ 40 ∧ a.2.2.dep ≤ 40 ∧ a.2.1.dep < n) (fun a => [.clo a.1, .d a.2.1.d, .d a.2.2.d]) (fun a => .bool (isStep a.1.kn a.2.1 a.2.2))
structure RoadOk (n : Nat) (f g : F) (l : List F) : Prop where
  l1 : 1 ≤ l.length
  l40 : l.length ≤ 40
  ok : ∀ x ∈ l, FOk n x
  hd : l.head? = some f
  la : l.getLast? = some g
def PIsRoad : Sp := PD K C (fun a : Fc × F × F × List F => FcOk a.1 ∧ NoClash a.1 ∧ RoadOk a.1.n a.2.1 a.2.2.1 a.2.2.2 ∧ ∀ c, IsClo a.1 c → Walk (isStep c.kn) a.2.2.2) (fun a => [.d a.1.d, .d a.2.1.d, .d a.2.2.1.d, .d (.tuple (a.2.2.2.map F.d))]) (fun _ => .bool true)
end
end RD

end
section
set_option linter.all false
set_option maxRecDepth 100000
set_option maxHeartbeats 4000000
/-! M3: going up in a list of elders. -/
namespace RD
open PySem PySem.Spec PyProof.Rows L2
theorem down_get {el : List Nat} (h : Down el) (x : Nat) : el.getD x x ≤ x := by
  rw [List.getD_eq_getElem?_getD]
  cases e : el[x]? with
  | none => exact Nat.le_refl x
  | some y => exact h x y e
theorem rtN_fuel {el : List Nat} (h : Down el) : ∀ k x, x ≤ k → rtN el k x = rtN el (k + 1) x
  | 0, x, hx => by
    have e : x = 0 := by omega
    subst e
    have := down_get h 0
    have e : el.getD 0 0 = 0 := by omega
    show 0 = if el.getD 0 0 = 0 then 0 else rtN el 0 (el.getD 0 0)
    rw [if_pos e]
  | k + 1, x, hx => by
    show (if el.getD x x = x then x else rtN el k (el.getD x x)) = if el.getD x x = x then x else rtN el (k + 1) (el.getD x x)
    by_cases e : el.getD x x = x
    · rw [if_pos e, if_pos e]
    · rw [if_neg e, if_neg e]
      have := down_get h x
      exact rtN_fuel h k _ (by omega)
theorem rtN_more {el : List Nat} (h : Down el) (k x : Nat) (hx : x ≤ k) : ∀ j, rtN el k x = rtN el (k + j) x
  | 0 => rfl
  | j + 1 => by
    rw [rtN_more h k x hx j]
    exact rtN_fuel h (k + j) x (by omega)
theorem rtN_le {el : List Nat} (h : Down el) : ∀ k x, rtN el k x ≤ x
  | 0, x => Nat.le_refl x
  | k + 1, x => by
    show (if el.getD x x = x then x else rtN el k (el.getD x x)) ≤ x
    split
    · exact Nat.le_refl x
    · have := down_get h x
      have := rtN_le h k (el.getD x x)
      omega
theorem rtN_fix {el : List Nat} (h : Down el) : ∀ k x, x ≤ k → el.getD (rtN el k x) (rtN el k x) = rtN el k x
  | 0, x, hx => by
    have e : x = 0 := by omega
    subst e
    have := down_get h 0
    show el.getD 0 0 = 0
    omega
  | k + 1, x, hx => by
    show el.getD (if el.getD x x = x then x else rtN el k (el.getD x x)) (if el.getD x x = x then x else rtN el k (el.getD x x)) = if el.getD x x = x then x else rtN el k (el.getD x x)
    by_cases e : el.getD x x = x
    · rw [if_pos e]
      exact e
    · rw [if_neg e]
      have := down_get h x
      exact rtN_fix h k _ (by omega)
/-- the root by a list of elders -/
def rtE (el : List Nat) (x : Nat) : Nat := rtN el el.length x
theorem rtE_far {el : List Nat} {x : Nat} (h : el.length ≤ x) : rtE el x = x := by
  unfold rtE
  cases e : el.length with
  | zero => rfl
  | succ k =>
    show (if el.getD x x = x then x else rtN el k (el.getD x x)) = x
    rw [if_pos]
    rw [List.getD_eq_getElem?_getD, List.getElem?_eq_none h] <;> rfl
theorem rtE_le {el : List Nat} (h : Down el) (x : Nat) : rtE el x ≤ x := rtN_le h _ x
theorem rtE_fix {el : List Nat} (h : Down el) (x : Nat) : el.getD (rtE el x) (rtE el x) = rtE el x := by
  by_cases hx : x ≤ el.length
  · exact rtN_fix h _ x hx
  · rw [rtE_far (by omega), List.getD_eq_getElem?_getD, List.getElem?_eq_none (by omega)] <;> rfl
theorem rtE_top {el : List Nat} {x : Nat} (e : el.getD x x = x) : rtE el x = x := by
  unfold rtE
  cases el.length with
  | zero => rfl
  | succ k =>
    show (if el.getD x x = x then x else rtN el k (el.getD x x)) = x
    rw [if_pos e]
theorem rtE_idem {el : List Nat} (h : Down el) (x : Nat) : rtE el (rtE el x) = rtE el x := rtE_top (rtE_fix h x)
theorem rtE_step {el : List Nat} (h : Down el) (x : Nat) : rtE el (el.getD x x) = rtE el x := by
  by_cases e : el.getD x x = x
  · rw [e]
  · have hx : x < el.length := by
      by_cases q : x < el.length
      · exact q
      · exact absurd (by rw [List.getD_eq_getElem?_getD, List.getElem?_eq_none (by omega)] <;> rfl) e
    have hd := down_get h x
    unfold rtE
    obtain ⟨k, ek⟩ : ∃ k, el.length = k + 1 := ⟨el.length - 1, by omega⟩
    rw [ek]
    have e1 : rtN el (k + 1) x = rtN el k (el.getD x x) := by
      show (if el.getD x x = x then x else rtN el k (el.getD x x)) = _
      rw [if_neg e]
    rw [e1, ← rtN_fuel h k _ (by omega)]
theorem rtE_lt {el : List Nat} (h : Down el) {x n : Nat} (hx : x < n) : rtE el x < n := Nat.lt_of_le_of_lt (rtE_le h x) hx
theorem rt_rtE (c : Clo) (x : Nat) : c.rt x = rtE c.el x := rfl
/-- what holds of x and its elder holds along the way -/
theorem rtE_ind {el : List Nat} (h : Down el) {α : Type} (t : Nat → α) (ht : ∀ x, t (el.getD x x) = t x) : ∀ x, t (rtE el x) = t x := by
  have key : ∀ k x, t (rtN el k x) = t x := by
    intro k
    induction k with
    | zero => intro x; rfl
    | succ k ih =>
      intro x
      show t (if el.getD x x = x then x else rtN el k (el.getD x x)) = t x
      split
      · rfl
      · rw [ih, ht]
  exact fun x => key _ x
end RD

end
section
set_option linter.all false
set_option maxRecDepth 100000
set_option maxHeartbeats 4000000
/-! M4: steps end in plain forms; roads. -/
namespace RD
open PySem PySem.Spec PyProof.Rows L2
structure KnOk (n : Nat) (k : Kn) : Prop where
  le : ∀ x, k.rt x ≤ x
  idem : ∀ x, k.rt (k.rt x) = k.rt x
  tl : ∀ w a b c, k.tl w a b = some c → k.rt c = c ∧ c < n
theorem kn_ok {fc : Fc} {k : Kn} (h : IsKn fc.es k) (ho : ∀ e ∈ fc.es, e.1 < fc.n ∧ e.2.1 < fc.n ∧ e.2.2 < fc.n) : KnOk fc.n k := by
  refine ⟨h.root.le, h.root.idem, fun w a b c e => ?_⟩
  obtain ⟨R, h1, h2⟩ := h.rows
  rw [h2] at e
  obtain ⟨r, hr, hp⟩ := tell_some e
  obtain ⟨e0, he, rfl⟩ := (h1 r).mp hr
  obtain ⟨x, y, z⟩ := e0
  have ho := ho _ he
  have q : ∃ u, u < fc.n ∧ k.rt u = c := by
    cases w
    · exact ⟨z, ho.2.2, congrArg (·.2.2) hp⟩
    · exact ⟨y, ho.2.1, congrArg (·.2.2) hp⟩
    · exact ⟨x, ho.1, congrArg (·.2.2) hp⟩
  obtain ⟨u, hu, rfl⟩ := q
  exact ⟨h.root.idem u, Nat.lt_of_le_of_lt (h.root.le u) hu⟩
def mu (k : Kn) : F → Nat
  | .nm x => if k.rt x = x then 0 else 1
  | .op _ a b => 1 + mu k a + mu k b
theorem mu_sz (k : Kn) : ∀ f, mu k f ≤ f.sz
  | .nm x => by
    show (if k.rt x = x then 0 else 1) ≤ 1
    split <;> omega
  | .op _ a b => by
    have := mu_sz k a
    have := mu_sz k b
    show 1 + mu k a + mu k b ≤ 1 + a.sz + b.sz
    omega
/-- g is a part of a or of b -/
def PartOf (g a b : F) : Prop := ∃ v x y, (a = .op v x y ∨ b = .op v x y) ∧ (g = x ∨ g = y)
theorem rule1_part {w : Wd} {a b g : F} (h : rule1 w a b = some g) : PartOf g a b := by
  cases b with
  | nm n => cases w <;> cases h
  | op v x y =>
    refine ⟨v, x, y, .inr rfl, ?_⟩
    cases w <;> cases v <;> simp only [rule1] at h <;> first | (cases h; done) | (split at h <;> first | (cases h; first | exact .inl rfl | exact .inr rfl) | cases h)
theorem rule2_part {w : Wd} {a b g : F} (h : rule2 w a b = some g) : PartOf g a b := by
  cases a with
  | nm n => cases w <;> cases h
  | op v x y =>
    refine ⟨v, x, y, .inl rfl, ?_⟩
    cases w <;> cases v <;> simp only [rule2] at h <;> first | (cases h; done) | (split at h <;> first | (cases h; first | exact .inl rfl | exact .inr rfl) | cases h)
theorem ruleTold_part {w : Wd} {a b g : F} (h : ruleTold w a b = some g) : PartOf g a b := by
  unfold ruleTold at h
  cases e : rule1 w a b with
  | some f =>
    rw [e] at h
    cases h
    exact rule1_part e
  | none =>
    rw [e] at h
    exact rule2_part h
theorem part_mu {k : Kn} {g a b : F} (h : PartOf g a b) : mu k g ≤ mu k a + mu k b := by
  obtain ⟨v, x, y, h1, h2⟩ := h
  rcases h1 with rfl | rfl <;> rcases h2 with rfl | rfl <;> simp only [mu] <;> omega
theorem part_sz {g a b : F} (h : PartOf g a b) : g.sz ≤ a.sz + b.sz := by
  obtain ⟨v, x, y, h1, h2⟩ := h
  rcases h1 with rfl | rfl <;> rcases h2 with rfl | rfl <;> simp only [F.sz] <;> omega
theorem part_lt {n : Nat} {g a b : F} (h : PartOf g a b) (ha : a.lt n = true) (hb : b.lt n = true) : g.lt n = true := by
  obtain ⟨v, x, y, h1, h2⟩ := h
  rcases h1 with rfl | rfl
  · simp only [F.lt, Bool.and_eq_true] at ha
    rcases h2 with rfl | rfl
    · exact ha.1
    · exact ha.2
  · simp only [F.lt, Bool.and_eq_true] at hb
    rcases h2 with rfl | rfl
    · exact hb.1
    · exact hb.2
theorem fs_nm (k : Kn) (x : Nat) : firstStep k (.nm x) = if k.rt x = x then none else some (.nm (k.rt x)) := rfl
theorem fs_a {k : Kn} {w : Wd} {a b a' : F} (h : firstStep k a = some a') : firstStep k (.op w a b) = some (.op w a' b) := by
  simp only [firstStep, h]
theorem fs_b {k : Kn} {w : Wd} {a b b' : F} (h : firstStep k a = none) (h2 : firstStep k b = some b') : firstStep k (.op w a b) = some (.op w a b') := by
  simp only [firstStep, h, h2]
theorem fs_c {k : Kn} {w : Wd} {a b : F} (h : firstStep k a = none) (h2 : firstStep k b = none) : firstStep k (.op w a b) = shorter k (.op w a b) := by
  simp only [firstStep, h, h2]
theorem fs_op {k : Kn} {w : Wd} {a b g : F} (h : firstStep k (.op w a b) = some g) :
    (∃ a', firstStep k a = some a' ∧ g = .op w a' b) ∨ (firstStep k a = none ∧ ∃ b', firstStep k b = some b' ∧ g = .op w a b') ∨ (firstStep k a = none ∧ firstStep k b = none ∧ ((∃ n, entryTold k w a b = some n ∧ g = .nm n) ∨ (entryTold k w a b = none ∧ ruleTold w a b = some g))) := by
  cases e : firstStep k a with
  | some a' =>
    rw [fs_a e] at h
    exact .inl ⟨a', rfl, (Option.some.inj h).symm⟩
  | none =>
    cases e2 : firstStep k b with
    | some b' =>
      rw [fs_b e e2] at h
      exact .inr (.inl ⟨rfl, b', rfl, (Option.some.inj h).symm⟩)
    | none =>
      rw [fs_c e e2] at h
      refine .inr (.inr ⟨rfl, rfl, ?_⟩)
      simp only [shorter] at h
      cases e3 : entryTold k w a b with
      | some n =>
        rw [e3] at h
        exact .inl ⟨n, rfl, (Option.some.inj h).symm⟩
      | none =>
        rw [e3] at h
        exact .inr ⟨rfl, h⟩
theorem fs_nm_some {k : Kn} {x : Nat} {g : F} (h : firstStep k (.nm x) = some g) : k.rt x ≠ x ∧ g = .nm (k.rt x) := by
  rw [fs_nm] at h
  split at h
  · cases h
  · rename_i e
    exact ⟨e, (Option.some.inj h).symm⟩
theorem fs_nm_none {k : Kn} {x : Nat} (h : firstStep k (.nm x) = none) : k.rt x = x := by
  rw [fs_nm] at h
  split at h
  · assumption
  · cases h
theorem entry_some {k : Kn} {w : Wd} {a b : F} {n : Nat} (h : entryTold k w a b = some n) : ∃ x y, a = .nm x ∧ b = .nm y ∧ k.tl w (k.rt x) (k.rt y) = some n := by
  cases a with
  | op _ _ _ => cases h
  | nm x =>
    cases b with
    | op _ _ _ => cases h
    | nm y => exact ⟨x, y, rfl, rfl, h⟩
section
variable {n : Nat} {k : Kn}
theorem fs_mu (hk : KnOk n k) : ∀ {f g : F}, firstStep k f = some g → mu k g < mu k f
  | .nm x, g, h => by
    obtain ⟨h1, rfl⟩ := fs_nm_some h
    show (if k.rt (k.rt x) = k.rt x then 0 else 1) < if k.rt x = x then 0 else 1
    rw [if_pos (hk.idem x), if_neg h1]
    exact Nat.zero_lt_one
  | .op w a b, g, h => by
    rcases fs_op h with ⟨a', e, rfl⟩ | ⟨_, b', e, rfl⟩ | ⟨_, _, ⟨c, e, rfl⟩ | ⟨_, e⟩⟩
    · have := fs_mu hk e
      simp only [mu]
      omega
    · have := fs_mu hk e
      simp only [mu]
      omega
    · obtain ⟨x, y, rfl, rfl, q⟩ := entry_some e
      have := (hk.tl _ _ _ _ q).1
      simp only [mu, if_pos this]
      omega
    · have := part_mu (k := k) (ruleTold_part e)
      simp only [mu]
      omega
theorem fs_sz : ∀ {f g : F}, firstStep k f = some g → g.sz ≤ f.sz
  | .nm x, g, h => by
    obtain ⟨h1, rfl⟩ := fs_nm_some h
    exact Nat.le_refl _
  | .op w a b, g, h => by
    rcases fs_op h with ⟨a', e, rfl⟩ | ⟨_, b', e, rfl⟩ | ⟨_, _, ⟨c, e, rfl⟩ | ⟨_, e⟩⟩
    · have := fs_sz e
      simp only [F.sz]
      omega
    · have := fs_sz e
      simp only [F.sz]
      omega
    · simp only [F.sz]
      omega
    · have := part_sz (ruleTold_part e)
      simp only [F.sz]
      omega
theorem fs_lt (hk : KnOk n k) : ∀ {f g : F}, firstStep k f = some g → f.lt n = true → g.lt n = true
  | .nm x, g, h, hl => by
    obtain ⟨h1, rfl⟩ := fs_nm_some h
    have hl : x < n := of_decide_eq_true hl
    exact decide_eq_true (Nat.lt_of_le_of_lt (hk.le x) hl)
  | .op w a b, g, h, hl => by
    have hl : (a.lt n && b.lt n) = true := hl
    rw [Bool.and_eq_true] at hl
    rcases fs_op h with ⟨a', e, rfl⟩ | ⟨_, b', e, rfl⟩ | ⟨_, _, ⟨c, e, rfl⟩ | ⟨_, e⟩⟩
    · show (a'.lt n && b.lt n) = true
      rw [fs_lt hk e hl.1, hl.2] <;> rfl
    · show (a.lt n && b'.lt n) = true
      rw [fs_lt hk e hl.2, hl.1] <;> rfl
    · obtain ⟨x, y, rfl, rfl, q⟩ := entry_some e
      exact decide_eq_true (hk.tl _ _ _ _ q).2
    · exact part_lt (ruleTold_part e) hl.1 hl.2
theorem fs_ne (hk : KnOk n k) {f g : F} (h : firstStep k f = some g) : f ≠ g := fun e => by
  have := fs_mu hk h
  rw [e] at this
  omega
/-! the law's plain form -/
def topF (k : Kn) (w : Wd) (a b : F) : F := match (match a, b with
    | .nm x, .nm y => k.tl w x y
    | _, _ => none) with
  | some n => .nm n
  | none => match lfirst (lrules a b) (.op w a b) with
    | some f => f
    | none => .op w a b
theorem lplain_op (k : Kn) (w : Wd) (a b : F) : lplain k (.op w a b) = topF k w (lplain k a) (lplain k b) := rfl
theorem lfirst_app {l m : List (F × F)} {f : F} : lfirst (l ++ m) f = match lfirst l f with
    | some g => some g
    | none => lfirst m f := by
  induction l with
  | nil => rfl
  | cons p l ih =>
    show (if p.1 = f then some p.2 else lfirst (l ++ m) f) = match (if p.1 = f then some p.2 else lfirst l f) with
      | some g => some g
      | none => lfirst m f
    by_cases e : p.1 = f
    · rw [if_pos e, if_pos e]
    · rw [if_neg e, if_neg e, ih]
theorem lfirst_B (w : Wd) (a b : F) : lfirst (lrulesB b) (.op w a b) = rule1 w a b := by
  cases b with
  | nm n => cases w <;> rfl
  | op v x y => cases w <;> cases v <;> simp [lrulesB, lfirst, rule1]
theorem lfirst_A (w : Wd) (a b : F) : lfirst (lrulesA a) (.op w a b) = rule2 w a b := by
  cases a with
  | nm n => cases w <;> rfl
  | op v x y => cases w <;> cases v <;> simp [lrulesA, lfirst, rule2]
theorem lfirst_rules (w : Wd) (a b : F) : lfirst (lrules a b) (.op w a b) = ruleTold w a b := by
  unfold lrules ruleTold
  rw [lfirst_app, lfirst_B, lfirst_A] <;> cases rule1 w a b <;> rfl
theorem lplain_plain : ∀ {f : F}, firstStep k f = none → lplain k f = f
  | .nm x, h => by
    show F.nm (k.rt x) = F.nm x
    rw [fs_nm_none h]
  | .op w a b, h => by
    cases e : firstStep k a with
    | some a' =>
      rw [fs_a e] at h
      cases h
    | none =>
      cases e2 : firstStep k b with
      | some b' =>
        rw [fs_b e e2] at h
        cases h
      | none =>
        rw [fs_c e e2] at h
        rw [lplain_op, lplain_plain e, lplain_plain e2]
        simp only [shorter] at h
        cases e3 : entryTold k w a b with
        | some c =>
          rw [e3] at h
          cases h
        | none =>
          rw [e3] at h
          have h : ruleTold w a b = none := h
          unfold topF
          have q : (match a, b with
              | .nm x, .nm y => k.tl w x y
              | _, _ => none) = none := by
            cases a with
            | op _ _ _ => rfl
            | nm x =>
              cases b with
              | op _ _ _ => rfl
              | nm y =>
                have e3 : k.tl w (k.rt x) (k.rt y) = none := e3
                rw [fs_nm_none e, fs_nm_none e2] at e3
                exact e3
          rw [q, lfirst_rules, h]
theorem part_plain {w : Wd} {a b g : F} (h : PartOf g a b) (h1 : firstStep k a = none) (h2 : firstStep k b = none) : firstStep k g = none := by
  have key : ∀ v x y, firstStep k (.op v x y) = none → firstStep k x = none ∧ firstStep k y = none := fun v x y q => by
    cases e : firstStep k x with
    | some a' =>
      rw [fs_a e] at q
      cases q
    | none =>
      cases e2 : firstStep k y with
      | some b' =>
        rw [fs_b e e2] at q
        cases q
      | none => exact ⟨rfl, rfl⟩
  obtain ⟨v, x, y, q1, q2⟩ := h
  rcases q1 with rfl | rfl
  · rcases q2 with rfl | rfl
    · exact (key _ _ _ h1).1
    · exact (key _ _ _ h1).2
  · rcases q2 with rfl | rfl
    · exact (key _ _ _ h2).1
    · exact (key _ _ _ h2).2
theorem lplain_step (hk : KnOk n k) : ∀ {f g : F}, firstStep k f = some g → lplain k g = lplain k f
  | .nm x, g, h => by
    obtain ⟨h1, rfl⟩ := fs_nm_some h
    show F.nm (k.rt (k.rt x)) = F.nm (k.rt x)
    rw [hk.idem]
  | .op w a b, g, h => by
    rcases fs_op h with ⟨a', e, rfl⟩ | ⟨_, b', e, rfl⟩ | ⟨e1, e2, ⟨c, e, rfl⟩ | ⟨en, e⟩⟩
    · rw [lplain_op, lplain_op, lplain_step hk e]
    · rw [lplain_op, lplain_op, lplain_step hk e]
    · rw [lplain_op, lplain_plain e1, lplain_plain e2]
      obtain ⟨x, y, rfl, rfl, q⟩ := entry_some e
      have hc := (hk.tl _ _ _ _ q).1
      rw [fs_nm_none e1, fs_nm_none e2] at q
      show F.nm (k.rt c) = topF k w (.nm x) (.nm y)
      unfold topF
      rw [hc]
      show F.nm c = match k.tl w x y with
        | some n => .nm n
        | none => _
      rw [q]
    · rw [lplain_op, lplain_plain e1, lplain_plain e2, lplain_plain (part_plain (w := w) (ruleTold_part e) e1 e2)]
      unfold topF
      have q : (match a, b with
          | .nm x, .nm y => k.tl w x y
          | _, _ => none) = none := by
        cases a with
        | op _ _ _ => rfl
        | nm x =>
          cases b with
          | op _ _ _ => rfl
          | nm y =>
            have e3 : k.tl w (k.rt x) (k.rt y) = none := en
            rw [fs_nm_none e1, fs_nm_none e2] at e3
            exact e3
      rw [q, lfirst_rules, e]
/-! runs -/
inductive Run (k : Kn) : F → List F → F → Prop
  | stop {f : F} : firstStep k f = none → Run k f [f] f
  | go {f g z : F} {l : List F} : firstStep k f = some g → Run k g l z → Run k f (f :: l) z
theorem steps_run (hk : KnOk n k) : ∀ (j : Nat) (f : F), mu k f ≤ j → ∃ z, Run k f (stepsN k j f) z
  | 0, f, h => by
    cases e : firstStep k f with
    | none => exact ⟨f, .stop e⟩
    | some g =>
      have := fs_mu hk e
      omega
  | j + 1, f, h => by
    cases e : firstStep k f with
    | none =>
      have q : stepsN k (j + 1) f = [f] := by simp only [stepsN, e]
      rw [q]
      exact ⟨f, .stop e⟩
    | some g =>
      have q : stepsN k (j + 1) f = f :: stepsN k j g := by simp only [stepsN, e]
      rw [q]
      have := fs_mu hk e
      obtain ⟨z, hz⟩ := steps_run hk j g (by omega)
      exact ⟨z, .go e hz⟩
theorem run_len (hk : KnOk n k) {f z : F} {l : List F} (h : Run k f l z) : l.length ≤ mu k f + 1 := by
  induction h with
  | stop _ => show 1 ≤ _; omega
  | go e _ ih =>
    have := fs_mu hk e
    rw [List.length_cons]
    omega
theorem run_head {f z : F} {l : List F} (h : Run k f l z) : ∃ t, l = f :: t := by
  cases h with
  | stop _ => exact ⟨[], rfl⟩
  | go _ _ => exact ⟨_, rfl⟩
theorem run_last {f z : F} {l : List F} (h : Run k f l z) : l.getLast? = some z := by
  induction h with
  | stop _ => rfl
  | @go f g z l e h ih =>
    obtain ⟨t, rfl⟩ := run_head h
    rw [List.getLast?_cons_cons]
    exact ih
theorem run_plain (hk : KnOk n k) {f z : F} {l : List F} (h : Run k f l z) : z = lplain k f := by
  induction h with
  | stop e => exact (lplain_plain e).symm
  | go e _ ih => rw [ih, lplain_step hk e]
theorem run_ok (hk : KnOk n k) {f z : F} {l : List F} (h : Run k f l z) (hf : FOk n f) : ∀ x ∈ l, FOk n x := by
  induction h with
  | stop _ =>
    intro x hx
    rw [List.mem_singleton.mp hx]
    exact hf
  | go e _ ih =>
    intro x hx
    rcases List.mem_cons.mp hx with q | q
    · rw [q]
      exact hf
    · exact ih ⟨fs_lt hk e hf.1, Nat.le_trans (fs_sz e) hf.2⟩ x q
/-- linked -/
def Lk (q : F → F → Bool) : List F → Prop
  | [] => True
  | [_] => True
  | x :: y :: r => q x y = true ∧ Lk q (y :: r)
theorem lk_walk {q : F → F → Bool} : ∀ {l : List F}, Lk q l → Walk q l
  | [], _, i, x, y, h, _ => by simp at h
  | [_], _, i, x, y, h, h' => by simp at h'
  | a :: b :: r, h, 0, x, y, h1, h2 => by
    simp at h1 h2
    subst h1 h2
    exact h.1
  | a :: b :: r, h, i + 1, x, y, h1, h2 => lk_walk h.2 i x y (by simpa using h1) (by simpa using h2)
theorem lk_app {q : F → F → Bool} : ∀ {l m : List F} {z : F}, Lk q l → l.getLast? = some z → Lk q (z :: m) → Lk q (l ++ m)
  | [], m, z, _, h, _ => by simp at h
  | [x], m, z, _, h, h2 => by
    simp at h
    subst h
    exact h2
  | x :: y :: r, m, z, h1, h2, h3 => by
    refine ⟨h1.1, ?_⟩
    rw [List.getLast?_cons_cons] at h2
    exact lk_app (l := y :: r) h1.2 h2 h3
theorem lk_rev {q : F → F → Bool} (hq : ∀ x y, q x y = q y x) : ∀ {l : List F}, Lk q l → Lk q l.reverse
  | [], _ => True.intro
  | [_], _ => True.intro
  | x :: y :: r, h => by
    rw [List.reverse_cons]
    refine lk_app (z := y) (lk_rev hq (l := y :: r) h.2) ?_ ⟨by rw [hq]; exact h.1, True.intro⟩
    rw [List.getLast?_reverse] <;> rfl
theorem run_lk {q : F → F → Bool} (hq : ∀ f g, firstStep k f = some g → q f g = true) {f z : F} {l : List F} (h : Run k f l z) : Lk q l := by
  induction h with
  | stop _ => exact True.intro
  | go e h ih =>
    obtain ⟨t, rfl⟩ := run_head h
    exact ⟨hq _ _ e, ih⟩
theorem back_cons {l : List F} {z : F} (h : l.getLast? = some z) : l.reverse = z :: l.dropLast.reverse := by
  have : l = l.dropLast ++ [z] := by
    have hne : l ≠ [] := fun e => by rw [e] at h; cases h
    rw [List.getLast?_eq_some_getLast hne] at h
    have e := List.dropLast_concat_getLast hne
    rw [Option.some.inj h] at e
    exact e.symm
  rw [this]
  rw [List.reverse_append, List.dropLast_concat] <;> rfl
theorem lastF_eq (hk : KnOk n k) (f : F) : lastF k f = lplain k f := by
  obtain ⟨z, hz⟩ := steps_run hk f.sz f (mu_sz k f)
  unfold lastF steps
  rw [List.getLastD_eq_getLast?, run_last hz, run_plain hk hz] <;> rfl
theorem road_ok (hk : KnOk n k) {f g : F} {l : List F} (hf : FOk n f) (hg : FOk n g) (h : roadF k f g = some l) : RoadOk n f g l ∧ ∀ q : F → F → Bool, (∀ f g, firstStep k f = some g → q f g = true) → (∀ x y, q x y = q y x) → Lk q l := by
  unfold roadF at h
  split at h
  · rename_i e
    have h := Option.some.inj h
    rw [lastF_eq hk, lastF_eq hk] at e
    obtain ⟨z, hz⟩ := steps_run hk f.sz f (mu_sz k f)
    obtain ⟨z', hz'⟩ := steps_run hk g.sz g (mu_sz k g)
    have ez := run_plain hk hz
    have ez' := run_plain hk hz'
    rw [← e, ← ez] at ez'
    rw [ez'] at hz'
    have hb := back_cons (run_last hz')
    have la := run_len hk hz
    have lb := run_len hk hz'
    have m1 := mu_sz k f
    have m2 := mu_sz k g
    have f15 := hf.2
    have g15 := hg.2
    have oa := run_ok hk hz hf
    have ob := run_ok hk hz' hg
    obtain ⟨t, et⟩ := run_head hz
    obtain ⟨t', et'⟩ := run_head hz'
    have lab : (stepsN k g.sz g).dropLast.reverse.length + 1 = (stepsN k g.sz g).length := by
      have := congrArg List.length hb
      rw [List.length_reverse, List.length_cons] at this
      omega
    subst h
    refine ⟨⟨?_, ?_, fun x hx => ?_, ?_, ?_⟩, fun q h1 h2 => ?_⟩
    · show 1 ≤ (stepsN k f.sz f ++ (stepsN k g.sz g).dropLast.reverse).length
      rw [List.length_append, et, List.length_cons]
      omega
    · show (stepsN k f.sz f ++ (stepsN k g.sz g).dropLast.reverse).length ≤ 40
      rw [List.length_append]
      omega
    · rcases List.mem_append.mp hx with c | c
      · exact oa x c
      · exact ob x (List.dropLast_subset _ (List.mem_reverse.mp c))
    · show (stepsN k f.sz f ++ (stepsN k g.sz g).dropLast.reverse).head? = some f
      rw [et] <;> rfl
    · show (stepsN k f.sz f ++ (stepsN k g.sz g).dropLast.reverse).getLast? = some g
      have hl : (z :: (stepsN k g.sz g).dropLast.reverse).getLast? = some g := by
        rw [← hb, List.getLast?_reverse, et'] <;> rfl
      cases er : (stepsN k g.sz g).dropLast.reverse with
      | nil =>
        rw [er] at hl
        rw [List.append_nil, run_last hz]
        exact hl
      | cons u v =>
        rw [er, List.getLast?_cons_cons] at hl
        rw [List.getLast?_append, hl] <;> rfl
    · refine lk_app (run_lk h1 hz) (run_last hz) ?_
      have := lk_rev h2 (run_lk h1 hz')
      rw [hb] at this
      exact this
  · cases h
theorem rev_ok {f g : F} {l : List F} (h : RoadOk n f g l) : RoadOk n g f l.reverse :=
  ⟨by rw [List.length_reverse]; exact h.l1, by rw [List.length_reverse]; exact h.l40, fun x hx => h.ok x (List.mem_reverse.mp hx), by rw [List.head?_reverse]; exact h.la, by rw [List.getLast?_reverse]; exact h.hd⟩
theorem road_none (hk : KnOk n k) (f g : F) : (roadF k f g).isSome = decide (lplain k f = lplain k g) := by
  unfold roadF
  rw [lastF_eq hk, lastF_eq hk]
  by_cases e : lplain k f = lplain k g
  · rw [if_pos e, decide_eq_true e] <;> rfl
  · rw [if_neg e, decide_eq_false e] <;> rfl
/-! a step is a move somewhere -/
theorem isMove_symm (k : Kn) : ∀ x y, isMove k x y = isMove k y x
  | .nm x, .nm y => by
    show (decide (x ≠ y) && decide (k.rt x = k.rt y)) = (decide (y ≠ x) && decide (k.rt y = k.rt x))
    rw [show decide (x ≠ y) = decide (y ≠ x) from by simp [eq_comm], show decide (k.rt x = k.rt y) = decide (k.rt y = k.rt x) from by simp [eq_comm]]
  | .nm x, .op v a b => by
    show (moveSide k (.nm x) (.op v a b) || moveSide k (.op v a b) (.nm x)) = (moveSide k (.op v a b) (.nm x) || moveSide k (.nm x) (.op v a b))
    exact Bool.or_comm _ _
  | .op w a b, .nm y => Bool.or_comm _ _
  | .op w a b, .op v x y => Bool.or_comm _ _
theorem isStep_symm (k : Kn) : ∀ x y, isStep k x y = isStep k y x
  | .nm x, .nm y => isMove_symm k _ _
  | .nm x, .op v a b => isMove_symm k _ _
  | .op w a b, .nm y => isMove_symm k _ _
  | .op w a b, .op v x y => by
    simp only [isStep]
    rw [isMove_symm k (.op w a b) (.op v x y), isStep_symm k b y, isStep_symm k a x]
    by_cases e : w = v
    · subst e
      by_cases e2 : a = x
      · subst e2
        simp
      · have e3 : ¬ x = a := fun z => e2 z.symm
        simp [e2, e3, eq_comm]
    · have e3 : ¬ v = w := fun z => e z.symm
      simp [e, e3]
theorem isStep_of (hk : KnOk n k) : ∀ f g, firstStep k f = some g → isStep k f g = true
  | .nm x, g, h => by
    obtain ⟨h1, rfl⟩ := fs_nm_some h
    show (decide (x ≠ k.rt x) && decide (k.rt x = k.rt (k.rt x))) = true
    rw [hk.idem, decide_eq_true (Ne.symm h1), decide_eq_true rfl] <;> rfl
  | .op w a b, g, h => by
    rcases fs_op h with ⟨a', e, rfl⟩ | ⟨_, b', e, rfl⟩ | ⟨e1, e2, ⟨c, e, rfl⟩ | ⟨en, e⟩⟩
    · simp only [isStep]
      rw [isStep_of hk a a' e]
      have := fs_ne hk e
      simp [this]
    · simp only [isStep]
      rw [isStep_of hk b b' e]
      simp
    · have hc : k.rt c = c := by
        obtain ⟨x, y, rfl, rfl, q⟩ := entry_some e
        exact (hk.tl _ _ _ _ q).1
      show (moveSide k (.op w a b) (.nm c) || moveSide k (.nm c) (.op w a b)) = true
      have : moveSide k (.op w a b) (.nm c) = true := by
        simp only [moveSide, e, hc]
        simp
      rw [this] <;> rfl
    · have q : moveSide k (.op w a b) g = true := by
        simp only [moveSide, e]
        simp
      have q2 : isMove k (.op w a b) g = true := by
        cases g with
        | nm _ =>
          show (moveSide k _ _ || _) = true
          rw [q] <;> rfl
        | op _ _ _ =>
          show (moveSide k _ _ || _) = true
          rw [q] <;> rfl
      cases g with
      | nm _ => exact q2
      | op v x y =>
        simp only [isStep]
        rw [q2] <;> rfl
end
section
variable {n : Nat} {M : List Nat} {R : List Ent}
theorem lmove_symm (M : List Nat) (R : List Ent) : ∀ x y, lmove M R x y = lmove M R y x
  | .nm x, .nm y => by
    show (decide (x ≠ y) && decide (M.getD x x = M.getD y y)) = (decide (y ≠ x) && decide (M.getD y y = M.getD x x))
    rw [show decide (x ≠ y) = decide (y ≠ x) from by simp [eq_comm], show decide (M.getD x x = M.getD y y) = decide (M.getD y y = M.getD x x) from by simp [eq_comm]]
  | .nm x, .op v a b => by
    show (lside M R (.nm x) (.op v a b) || lside M R (.op v a b) (.nm x)) = (lside M R (.op v a b) (.nm x) || lside M R (.nm x) (.op v a b))
    exact Bool.or_comm _ _
  | .op w a b, .nm y => Bool.or_comm _ _
  | .op w a b, .op v x y => Bool.or_comm _ _
theorem lstep_symm (M : List Nat) (R : List Ent) : ∀ x y, lstep M R x y = lstep M R y x
  | .nm x, .nm y => lmove_symm M R _ _
  | .nm x, .op v a b => lmove_symm M R _ _
  | .op w a b, .nm y => lmove_symm M R _ _
  | .op w a b, .op v x y => by
    simp only [lstep]
    rw [lmove_symm M R (.op w a b) (.op v x y), lstep_symm M R b y, lstep_symm M R a x]
    by_cases e : w = v
    · subst e
      simp [eq_comm]
    · have e3 : ¬ v = w := fun z => e z.symm
      simp [e, e3]
theorem lfirst_mem {l : List (F × F)} {f g : F} (h : lfirst l f = some g) : (f, g) ∈ l := by
  induction l with
  | nil => cases h
  | cons p l ih =>
    have h : (if p.1 = f then some p.2 else lfirst l f) = some g := h
    split at h
    · rename_i e
      rw [← e, ← Option.some.inj h]
      exact List.mem_cons_self
    · exact List.mem_cons_of_mem _ (ih h)
theorem lstep_of (hk : KnOk n (lkn M R)) : ∀ f g, firstStep (lkn M R) f = some g → lstep M R f g = true
  | .nm x, g, h => by
    obtain ⟨h1, rfl⟩ := fs_nm_some h
    have hi := hk.idem x
    show (decide (x ≠ (lkn M R).rt x) && decide ((lkn M R).rt x = (lkn M R).rt ((lkn M R).rt x))) = true
    rw [hi, decide_eq_true (Ne.symm h1), decide_eq_true rfl] <;> rfl
  | .op w a b, g, h => by
    rcases fs_op h with ⟨a', e, rfl⟩ | ⟨_, b', e, rfl⟩ | ⟨e1, e2, ⟨c, e, rfl⟩ | ⟨en, e⟩⟩
    · simp only [lstep]
      rw [lstep_of hk a a' e]
      simp
    · simp only [lstep]
      rw [lstep_of hk b b' e]
      simp
    · obtain ⟨x, y, rfl, rfl, q⟩ := entry_some e
      have hc : M.getD c c = c := (hk.tl _ _ _ _ q).1
      obtain ⟨r, hr, hp⟩ := tell_some q
      show (lside M R (.op w (.nm x) (.nm y)) (.nm c) || _) = true
      have : lside M R (.op w (.nm x) (.nm y)) (.nm c) = true := by
        show ((R.any fun r => decide (pl w r = (M.getD x x, M.getD y y, M.getD c c))) || _) = true
        rw [List.any_eq_true.mpr ⟨r, hr, decide_eq_true (by rw [hp, hc]; rfl)⟩] <;> rfl
      rw [this] <;> rfl
    · have hm := lfirst_mem (by rw [lfirst_rules]; exact e : lfirst (lrules a b) (.op w a b) = some g)
      have q : lside M R (.op w a b) g = true := by
        show (_ || (lrules a b).any fun p => decide (p = (F.op w a b, g))) = true
        rw [List.any_eq_true.mpr ⟨_, hm, decide_eq_true rfl⟩, Bool.or_true]
      have q2 : lmove M R (.op w a b) g = true := by
        cases g with
        | nm _ =>
          show (lside M R _ _ || _) = true
          rw [q] <;> rfl
        | op _ _ _ =>
          show (lside M R _ _ || _) = true
          rw [q] <;> rfl
      cases g with
      | nm _ => exact q2
      | op v x y =>
        simp only [lstep]
        rw [q2] <;> rfl
end
end RD

end
section
set_option linter.all false
set_option maxRecDepth 100000
set_option maxHeartbeats 4000000
namespace RD
open PySem PySem.Spec PyProof.Rows L2
abbrev sClosingRoot : Stmt := L2.inClass (topS 19) 1
abbrev NClosingRoot : List Str := ["self", "thing"]
theorem scClosingRoot : FnScope NClosingRoot ["self", "thing"] (defScope sClosingRoot) := ⟨rfl, rfl, rfl, by decide +kernel, rfl, by decide +kernel, by decide +kernel⟩
def tClosingRoot (K : PySem.W.Frag) (C : Addr) : TS :=
  (tSeq (tWhile (tTest (tOp (rNeD K) (tOp (rIx K) (tFld K (tVar 0) "elder") (tVar 1)) (tVar 1))) (tAsg (tOp (rIx K) (tFld K (tVar 0) "elder") (tVar 1)) (gName 1)))
    (tRet (tVar 1)))
set_option maxHeartbeats 8000000 in
theorem dvClosingRoot {P : Program} {w : World} {K : PySem.W.Frag} {mg : Str → Option Value} {base : Heap} {C aW aP : Addr} {f : Addr} {cdv : Value} {A : Around} {outer : List Env} {s : Shared} {H : Hp} {E : XK} {k : Nat} (T : Bl K w mg C aW aP)  (hr : Room k (A.deeper (envOfC "Closing.root" (defScope sClosingRoot) s.heap.objs.size f cdv))) :
    PSs (cxOf L2.CX0 P w K mg base NClosingRoot "Closing.root" (defScope sClosingRoot) f cdv A outer s H E).nox (defBody sClosingRoot) (tClosingRoot K C) :=
  (pss_cons (ps_while PassesOwn.never (pt_cmpR (op_neD hr.units) (pe_ix ix_seq (pe_fld (pv 0) rfl) (pv 1) (fun _ _ => rfl)) (pv 1) (nomark _)) (pss_one (ps_set (i := 1) scClosingRoot.nd rfl (Or.inl rfl) (pe_ix ix_seq (pe_fld (pv 0) rfl) (pv 1) (fun _ _ => rfl)))))
    (pss_one (ps_ret (pv 1))))
abbrev sClosingTold : Stmt := L2.inClass (topS 19) 6
abbrev NClosingTold : List Str := ["self", "places", "one", "other", "row"]
theorem scClosingTold : FnScope NClosingTold ["self", "places", "one", "other"] (defScope sClosingTold) := ⟨rfl, rfl, rfl, by decide +kernel, rfl, by decide +kernel, by decide +kernel⟩
def tClosingTold (K : PySem.W.Frag) (C : Addr) : TS :=
  (tSeq (tFor (iList K (tFld K (tVar 0) "rows")) (gName 4) (tIfS (tAnd (tTest (tOp (rEqD K) (tOp (rIx K) (tVar 4) (tOp (rIx K) (tVar 1) (tC (.int 0)))) (tVar 2))) (tTest (tOp (rEqD K) (tOp (rIx K) (tVar 4) (tOp (rIx K) (tVar 1) (tC (.int 1)))) (tVar 3)))) (tRet (tOp (rIx K) (tVar 4) (tOp (rIx K) (tVar 1) (tC (.int 2))))) tNext))
    (tRet (tC .non)))
set_option maxHeartbeats 8000000 in
theorem dvClosingTold {P : Program} {w : World} {K : PySem.W.Frag} {mg : Str → Option Value} {base : Heap} {C aW aP : Addr} {f : Addr} {cdv : Value} {A : Around} {outer : List Env} {s : Shared} {H : Hp} {E : XK} {k : Nat} (T : Bl K w mg C aW aP)  (hr : Room k (A.deeper (envOfC "Closing.told" (defScope sClosingTold) s.heap.objs.size f cdv))) :
    PSs (cxOf L2.CX0 P w K mg base NClosingTold "Closing.told" (defScope sClosingTold) f cdv A outer s H E).nox (defBody sClosingTold) (tClosingTold K C) :=
  (pss_cons (ps_for PassesOwn.never rfl (pi_list (pe_fld (pv 0) rfl)) (pg_name (i := 4) scClosingTold.nd rfl (Or.inl rfl)) (pss_one (ps_if (PW.pt (pw_and (pt_cmpR (op_eqD hr.units) (pe_ix ix_seq (pv 4) (pe_ix ix_seq (pv 1) pe_int (fun _ _ => rfl)) (fun _ _ => rfl)) (pv 2) (nomark _)) (pw_and1 (pt_cmpR (op_eqD hr.units) (pe_ix ix_seq (pv 4) (pe_ix ix_seq (pv 1) pe_int (fun _ _ => rfl)) (fun _ _ => rfl)) (pv 3) (nomark _))))) (pss_one (ps_ret (pe_ix ix_seq (pv 4) (pe_ix ix_seq (pv 1) pe_int (fun _ _ => rfl)) (fun _ _ => rfl)))) pss_nil)))
    (pss_one (ps_ret pe_non)))
abbrev sAreOne : Stmt := topS 24
abbrev NAreOne : List Str := ["closing", "pair"]
theorem scAreOne : FnScope NAreOne ["closing", "pair"] (defScope sAreOne) := ⟨rfl, rfl, rfl, by decide +kernel, rfl, by decide +kernel, by decide +kernel⟩
def tAreOne (K : PySem.W.Frag) (C : Addr) : TS :=
  (tRet (tOp (rEqD K) (tMeth C "root" (PClosingRoot K C) [] L2.E0 (tVar 0) (tCons (tOp (rIx K) (tVar 1) (tC (.int 0))) tNil)) (tMeth C "root" (PClosingRoot K C) [] L2.E0 (tVar 0) (tCons (tOp (rIx K) (tVar 1) (tC (.int 1))) tNil))))
set_option maxHeartbeats 8000000 in
theorem dvAreOne {P : Program} {w : World} {K : PySem.W.Frag} {mg : Str → Option Value} {base : Heap} {C aW aP : Addr} {f : Addr} {cdv : Value} {A : Around} {outer : List Env} {s : Shared} {H : Hp} {E : XK} {k : Nat} (T : Bl K w mg C aW aP) {jClosingRoot : Nat} (cClosingRoot : Mt P w K mg base jClosingRoot C "root" (PClosingRoot K C)) (hjClosingRoot : jClosingRoot ≤ k) (hr : Room k (A.deeper (envOfC "are_one" (defScope sAreOne) s.heap.objs.size f cdv))) :
    PSs (cxOf L2.CX0 P w K mg base NAreOne "are_one" (defScope sAreOne) f cdv A outer s H E).nox (defBody sAreOne) (tAreOne K C) :=
  (pss_one (ps_ret (pe_cmpR (op_eqD hr.units) (pe_m cClosingRoot hr (by omega) (pv 0) (pa_cons (pe_ix ix_seq (pv 1) pe_int (fun _ _ => rfl)) pa_nil)) (pe_m cClosingRoot hr (by omega) (pv 0) (pa_cons (pe_ix ix_seq (pv 1) pe_int (fun _ _ => rfl)) pa_nil)) (nomark _))))
abbrev sTornBy : Stmt := topS 25
abbrev NTornBy : List Str := ["facts", "closing", "number", "pair"]
theorem scTornBy : FnScope NTornBy ["facts", "closing"] (defScope sTornBy) := ⟨rfl, rfl, rfl, by decide +kernel, rfl, by decide +kernel, by decide +kernel⟩
def tTornBy (K : PySem.W.Frag) (C : Addr) : TS :=
  (tSeq (tFor (iEnumT K (tCons (tOp (rIx K) (tVar 0) (tC (.int 2))) tNil)) (gTup K 2 (gCons (gName 2) (gCons (gName 3) gNil))) (tIfS (tB (tCall (PAreOne K C) [] L2.E0 (tCons (tVar 1) (tCons (tVar 3) tNil)))) (tRet (tVar 2)) tNext))
    (tRet (tC .non)))
set_option maxHeartbeats 8000000 in
theorem dvTornBy {P : Program} {w : World} {K : PySem.W.Frag} {mg : Str → Option Value} {base : Heap} {C aW aP : Addr} {f : Addr} {cdv : Value} {A : Around} {outer : List Env} {s : Shared} {H : Hp} {E : XK} {k : Nat} (T : Bl K w mg C aW aP) {jAreOne : Nat} (cAreOne : Cl P w K mg base jAreOne "are_one" (PAreOne K C)) (hjAreOne : jAreOne ≤ k) (hr : Room k (A.deeper (envOfC "torn_by" (defScope sTornBy) s.heap.objs.size f cdv))) :
    PSs (cxOf L2.CX0 P w K mg base NTornBy "torn_by" (defScope sTornBy) f cdv A outer s H E).nox (defBody sTornBy) (tTornBy K C) :=
  (pss_cons (ps_for PassesOwn.never rfl (pi_enumT (by rfl) T.enumerate_ (pa_cons (pe_ix ix_seq (pv 0) pe_int (fun _ _ => rfl)) pa_nil)) (pg_tup rfl (pgs_cons (pg_name (i := 2) scTornBy.nd rfl (Or.inl rfl)) (pgs_cons (pg_name (i := 3) scTornBy.nd rfl (Or.inl rfl)) pgs_nil))) (pss_one (ps_if (pt_val (pe_d cAreOne hr (by omega) (by rfl) (pa_cons (pv 1) (pa_cons (pv 3) pa_nil)))) (pss_one (ps_ret (pv 2))) pss_nil)))
    (pss_one (ps_ret pe_non)))
abbrev sClash : Stmt := topS 26
abbrev NClash : List Str := ["facts", "numbers", "pair"]
theorem scClash : FnScope NClash ["facts"] (defScope sClash) := ⟨rfl, rfl, rfl, by decide +kernel, rfl, by decide +kernel, by decide +kernel⟩
def tClash (K : PySem.W.Frag) (C : Addr) : TS :=
  (tSeq (tIfS (tTest (tOp rIsNo (tCall (PTornBy K C) [] L2.E0 (tCons (tVar 0) (tCons (tCall (PClosingOf K C) [] L2.E0 (tCons (tVar 0) tNil)) tNil))) (tC .non))) (tRet (tC .non)) tNext)
    tNever)
set_option maxHeartbeats 8000000 in
theorem dvClash {P : Program} {w : World} {K : PySem.W.Frag} {mg : Str → Option Value} {base : Heap} {C aW aP : Addr} {f : Addr} {cdv : Value} {A : Around} {outer : List Env} {s : Shared} {H : Hp} {E : XK} {k : Nat} (T : Bl K w mg C aW aP) {jClosingOf : Nat} (cClosingOf : Cl P w K mg base jClosingOf "closing_of" (PClosingOf K C)) (hjClosingOf : jClosingOf ≤ k)
    {jTornBy : Nat} (cTornBy : Cl P w K mg base jTornBy "torn_by" (PTornBy K C)) (hjTornBy : jTornBy ≤ k) (hr : Room k (A.deeper (envOfC "clash" (defScope sClash) s.heap.objs.size f cdv))) :
    PSs (cxOf L2.CX0 P w K mg base NClash "clash" (defScope sClash) f cdv A outer s H E).nox (defBody sClash) (tClash K C) :=
  (pss_cons (ps_if (pt_cmpR op_isN (pe_d cTornBy hr (by omega) (by rfl) (pa_cons (pv 0) (pa_cons (pe_d cClosingOf hr (by omega) (by rfl) (pa_cons (pv 0) pa_nil)) pa_nil))) pe_non (nomark _)) (pss_one (ps_ret pe_non)) pss_nil)
    pss_never)
abbrev sClosed : Stmt := topS 27
abbrev NClosed : List Str := ["facts", "found"]
theorem scClosed : FnScope NClosed ["facts"] (defScope sClosed) := ⟨rfl, rfl, rfl, by decide +kernel, rfl, by decide +kernel, by decide +kernel⟩
def tClosed (K : PySem.W.Frag) (C : Addr) : TS :=
  (tSeq (tAsg (tCall (PClash K C) [] L2.E0 (tCons (tVar 0) tNil)) (gName 1))
    (tSeq (tIfS (tTest (tOp rNotNo (tVar 1) (tC .non))) tNever tNext)
    (tRet (tCall (PClosingOf K C) [] L2.E0 (tCons (tVar 0) tNil)))))
set_option maxHeartbeats 8000000 in
theorem dvClosed {P : Program} {w : World} {K : PySem.W.Frag} {mg : Str → Option Value} {base : Heap} {C aW aP : Addr} {f : Addr} {cdv : Value} {A : Around} {outer : List Env} {s : Shared} {H : Hp} {E : XK} {k : Nat} (T : Bl K w mg C aW aP) {jClosingOf : Nat} (cClosingOf : Cl P w K mg base jClosingOf "closing_of" (PClosingOf K C)) (hjClosingOf : jClosingOf ≤ k)
    {jClash : Nat} (cClash : Cl P w K mg base jClash "clash" (PClash K C)) (hjClash : jClash ≤ k) (hr : Room k (A.deeper (envOfC "closed" (defScope sClosed) s.heap.objs.size f cdv))) :
    PSs (cxOf L2.CX0 P w K mg base NClosed "closed" (defScope sClosed) f cdv A outer s H E).nox (defBody sClosed) (tClosed K C) :=
  (pss_cons (ps_set (i := 1) scClosed.nd rfl (Or.inl rfl) (pe_d cClash hr (by omega) (by rfl) (pa_cons (pv 0) pa_nil)))
    (pss_cons (ps_if (pt_cmpR op_notN (pv 1) pe_non (nomark _)) (pss_one ps_never) pss_nil)
    (pss_one (ps_ret (pe_d cClosingOf hr (by omega) (by rfl) (pa_cons (pv 0) pa_nil))))))
abbrev sEntryTold : Stmt := topS 29
abbrev NEntryTold : List Str := ["closing", "formula", "word", "one", "other"]
theorem scEntryTold : FnScope NEntryTold ["closing", "formula"] (defScope sEntryTold) := ⟨rfl, rfl, rfl, by decide +kernel, rfl, by decide +kernel, by decide +kernel⟩
def tEntryTold (K : PySem.W.Frag) (C : Addr) (P : Program) (w : World) (aW aP : Addr) : TS :=
  (tSeq (tAsg (tVar 1) (gTup K 3 (gCons (gName 2) (gCons (gName 3) (gCons (gName 4) gNil)))))
    (tSeq (tIfS (tOr (tNot (tB (tCall (PIsName K C) [] L2.E0 (tCons (tVar 3) tNil)))) (tNot (tB (tCall (PIsName K C) [] L2.E0 (tCons (tVar 4) tNil))))) (tRet (tC .non)) tNext)
    (tRet (tMeth C "told" (PClosingTold K C) [] L2.E0 (tVar 0) (tCons (tOp (rIxD K w) (tC (.ref aP)) (tVar 2)) (tCons (tMeth C "root" (PClosingRoot K C) [] L2.E0 (tVar 0) (tCons (tVar 3) tNil)) (tCons (tMeth C "root" (PClosingRoot K C) [] L2.E0 (tVar 0) (tCons (tVar 4) tNil)) tNil)))))))
set_option maxHeartbeats 8000000 in
theorem dvEntryTold {P : Program} {w : World} {K : PySem.W.Frag} {mg : Str → Option Value} {base : Heap} {C aW aP : Addr} {f : Addr} {cdv : Value} {A : Around} {outer : List Env} {s : Shared} {H : Hp} {E : XK} {k : Nat} (T : Bl K w mg C aW aP) {jIsName : Nat} (cIsName : Cl P w K mg base jIsName "is_name" (PIsName K C)) (hjIsName : jIsName ≤ k)
    {jClosingRoot : Nat} (cClosingRoot : Mt P w K mg base jClosingRoot C "root" (PClosingRoot K C)) (hjClosingRoot : jClosingRoot ≤ k)
    {jClosingTold : Nat} (cClosingTold : Mt P w K mg base jClosingTold C "told" (PClosingTold K C)) (hjClosingTold : jClosingTold ≤ k) (hr : Room k (A.deeper (envOfC "entry_told" (defScope sEntryTold) s.heap.objs.size f cdv))) :
    PSs (cxOf L2.CX0 P w K mg base NEntryTold "entry_told" (defScope sEntryTold) f cdv A outer s H E).nox (defBody sEntryTold) (tEntryTold K C P w aW aP) :=
  (pss_cons (ps_asg (pv 1) (pg_tup rfl (pgs_cons (pg_name (i := 2) scEntryTold.nd rfl (Or.inl rfl)) (pgs_cons (pg_name (i := 3) scEntryTold.nd rfl (Or.inl rfl)) (pgs_cons (pg_name (i := 4) scEntryTold.nd rfl (Or.inl rfl)) pgs_nil)))))
    (pss_cons (ps_if (PW.pt (pw_or (pt_not (pt_val (pe_d cIsName hr (by omega) (by rfl) (pa_cons (pv 3) pa_nil)))) (pw_or1 (pt_not (pt_val (pe_d cIsName hr (by omega) (by rfl) (pa_cons (pv 4) pa_nil))))))) (pss_one (ps_ret pe_non)) pss_nil)
    (pss_one (ps_ret (pe_m cClosingTold hr (by omega) (pv 0) (pa_cons (pe_ix ix_kdict (C8.pe_gc (by rfl) T.gPLACES) (pv 2) (fun _ _ => rfl)) (pa_cons (pe_m cClosingRoot hr (by omega) (pv 0) (pa_cons (pv 3) pa_nil)) (pa_cons (pe_m cClosingRoot hr (by omega) (pv 0) (pa_cons (pv 4) pa_nil)) pa_nil))))))))
abbrev sShorter : Stmt := topS 32
abbrev NShorter : List Str := ["closing", "formula", "found"]
theorem scShorter : FnScope NShorter ["closing", "formula"] (defScope sShorter) := ⟨rfl, rfl, rfl, by decide +kernel, rfl, by decide +kernel, by decide +kernel⟩
def tShorter (K : PySem.W.Frag) (C : Addr) : TS :=
  (tSeq (tIfS (tB (tCall (PIsName K C) [] L2.E0 (tCons (tVar 1) tNil))) (tRet (tIf (tTest (tOp (rEqD K) (tMeth C "root" (PClosingRoot K C) [] L2.E0 (tVar 0) (tCons (tVar 1) tNil)) (tVar 1))) (tC .non) (tMeth C "root" (PClosingRoot K C) [] L2.E0 (tVar 0) (tCons (tVar 1) tNil)))) tNext)
    (tSeq (tAsg (tCall (PEntryTold K C) [] L2.E0 (tCons (tVar 0) (tCons (tVar 1) tNil))) (gName 2))
    (tRet (tIf (tTest (tOp rIsNo (tVar 2) (tC .non))) (tCall (PRuleTold K C) [] L2.E0 (tCons (tVar 1) tNil)) (tVar 2)))))
set_option maxHeartbeats 8000000 in
theorem dvShorter {P : Program} {w : World} {K : PySem.W.Frag} {mg : Str → Option Value} {base : Heap} {C aW aP : Addr} {f : Addr} {cdv : Value} {A : Around} {outer : List Env} {s : Shared} {H : Hp} {E : XK} {k : Nat} (T : Bl K w mg C aW aP) {jIsName : Nat} (cIsName : Cl P w K mg base jIsName "is_name" (PIsName K C)) (hjIsName : jIsName ≤ k)
    {jClosingRoot : Nat} (cClosingRoot : Mt P w K mg base jClosingRoot C "root" (PClosingRoot K C)) (hjClosingRoot : jClosingRoot ≤ k)
    {jEntryTold : Nat} (cEntryTold : Cl P w K mg base jEntryTold "entry_told" (PEntryTold K C)) (hjEntryTold : jEntryTold ≤ k)
    {jRuleTold : Nat} (cRuleTold : Cl P w K mg base jRuleTold "rule_told" (PRuleTold K C)) (hjRuleTold : jRuleTold ≤ k) (hr : Room k (A.deeper (envOfC "shorter" (defScope sShorter) s.heap.objs.size f cdv))) :
    PSs (cxOf L2.CX0 P w K mg base NShorter "shorter" (defScope sShorter) f cdv A outer s H E).nox (defBody sShorter) (tShorter K C) :=
  (pss_cons (ps_if (pt_val (pe_d cIsName hr (by omega) (by rfl) (pa_cons (pv 1) pa_nil))) (pss_one (ps_ret (pe_ifExp (pt_cmpR (op_eqD hr.units) (pe_m cClosingRoot hr (by omega) (pv 0) (pa_cons (pv 1) pa_nil)) (pv 1) (nomark _)) pe_non (pe_m cClosingRoot hr (by omega) (pv 0) (pa_cons (pv 1) pa_nil))))) pss_nil)
    (pss_cons (ps_set (i := 2) scShorter.nd rfl (Or.inl rfl) (pe_d cEntryTold hr (by omega) (by rfl) (pa_cons (pv 0) (pa_cons (pv 1) pa_nil))))
    (pss_one (ps_ret (pe_ifExp (pt_cmpR op_isN (pv 2) pe_non (nomark _)) (pe_d cRuleTold hr (by omega) (by rfl) (pa_cons (pv 1) pa_nil)) (pv 2))))))
abbrev sFirstStep : Stmt := topS 33
abbrev NFirstStep : List Str := ["closing", "formula", "word", "one", "other", "found"]
theorem scFirstStep : FnScope NFirstStep ["closing", "formula"] (defScope sFirstStep) := ⟨rfl, rfl, rfl, by decide +kernel, rfl, by decide +kernel, by decide +kernel⟩
def tFirstStep (K : PySem.W.Frag) (C : Addr) (nFirstStep : Nat) : TS :=
  (tSeq (tIfS (tNot (tB (tCall (PIsName K C) [] L2.E0 (tCons (tVar 1) tNil)))) (tSeq (tAsg (tVar 1) (gTup K 3 (gCons (gName 2) (gCons (gName 3) (gCons (gName 4) gNil)))))
    (tSeq (tAsg (tCall (PFirstStep K C nFirstStep) [] L2.E0 (tCons (tVar 0) (tCons (tVar 3) tNil))) (gName 5))
    (tSeq (tIfS (tTest (tOp rNotNo (tVar 5) (tC .non))) (tRet (tTup (tCons (tVar 2) (tCons (tVar 5) (tCons (tVar 4) tNil))))) tNext)
    (tSeq (tAsg (tCall (PFirstStep K C nFirstStep) [] L2.E0 (tCons (tVar 0) (tCons (tVar 4) tNil))) (gName 5))
    (tIfS (tTest (tOp rNotNo (tVar 5) (tC .non))) (tRet (tTup (tCons (tVar 2) (tCons (tVar 3) (tCons (tVar 5) tNil))))) tNext))))) tNext)
    (tRet (tCall (PShorter K C) [] L2.E0 (tCons (tVar 0) (tCons (tVar 1) tNil)))))
set_option maxHeartbeats 8000000 in
theorem dvFirstStep {P : Program} {w : World} {K : PySem.W.Frag} {mg : Str → Option Value} {base : Heap} {C aW aP : Addr} {f : Addr} {cdv : Value} {A : Around} {outer : List Env} {s : Shared} {H : Hp} {E : XK} {k : Nat} {nFirstStep : Nat} (T : Bl K w mg C aW aP) {jIsName : Nat} (cIsName : Cl P w K mg base jIsName "is_name" (PIsName K C)) (hjIsName : jIsName ≤ k)
    {jShorter : Nat} (cShorter : Cl P w K mg base jShorter "shorter" (PShorter K C)) (hjShorter : jShorter ≤ k)
    {jFirstStep : Nat} (cFirstStep : Cl P w K mg base jFirstStep "first_step" (PFirstStep K C nFirstStep)) (hjFirstStep : jFirstStep ≤ k) (hr : Room k (A.deeper (envOfC "first_step" (defScope sFirstStep) s.heap.objs.size f cdv))) :
    PSs (cxOf L2.CX0 P w K mg base NFirstStep "first_step" (defScope sFirstStep) f cdv A outer s H E).nox (defBody sFirstStep) (tFirstStep K C nFirstStep) :=
  (pss_cons (ps_if (pt_not (pt_val (pe_d cIsName hr (by omega) (by rfl) (pa_cons (pv 1) pa_nil)))) (pss_cons (ps_asg (pv 1) (pg_tup rfl (pgs_cons (pg_name (i := 2) scFirstStep.nd rfl (Or.inl rfl)) (pgs_cons (pg_name (i := 3) scFirstStep.nd rfl (Or.inl rfl)) (pgs_cons (pg_name (i := 4) scFirstStep.nd rfl (Or.inl rfl)) pgs_nil)))))
    (pss_cons (ps_set (i := 5) scFirstStep.nd rfl (Or.inl rfl) (pe_d cFirstStep hr (by omega) (by rfl) (pa_cons (pv 0) (pa_cons (pv 3) pa_nil))))
    (pss_cons (ps_if (pt_cmpR op_notN (pv 5) pe_non (nomark _)) (pss_one (ps_ret (pe_tup (pa_cons (pv 2) (pa_cons (pv 5) (pa_cons (pv 4) pa_nil)))))) pss_nil)
    (pss_cons (ps_set (i := 5) scFirstStep.nd rfl (Or.inl rfl) (pe_d cFirstStep hr (by omega) (by rfl) (pa_cons (pv 0) (pa_cons (pv 4) pa_nil))))
    (pss_one (ps_if (pt_cmpR op_notN (pv 5) pe_non (nomark _)) (pss_one (ps_ret (pe_tup (pa_cons (pv 2) (pa_cons (pv 3) (pa_cons (pv 5) pa_nil)))))) pss_nil)))))) pss_nil)
    (pss_one (ps_ret (pe_d cShorter hr (by omega) (by rfl) (pa_cons (pv 0) (pa_cons (pv 1) pa_nil))))))
abbrev sSteps : Stmt := topS 34
abbrev NSteps : List Str := ["closing", "formula", "found", "after"]
theorem scSteps : FnScope NSteps ["closing", "formula"] (defScope sSteps) := ⟨rfl, rfl, rfl, by decide +kernel, rfl, by decide +kernel, by decide +kernel⟩
def tSteps (K : PySem.W.Frag) (C : Addr) (nFirstStep : Nat) : TS :=
  (tSeq (tAsg (tLst (tCons (tVar 1) tNil)) (gName 2))
    (tSeq (tAsg (tCall (PFirstStep K C nFirstStep) [] L2.E0 (tCons (tVar 0) (tCons (tVar 1) tNil))) (gName 3))
    (tSeq (tWhile (tTest (tOp rNotNo (tVar 3) (tC .non))) (tSeq (tDrop (tBM K "list" rAppend (tVar 2) (tCons (tVar 3) tNil)))
    (tAsg (tCall (PFirstStep K C nFirstStep) [] L2.E0 (tCons (tVar 0) (tCons (tVar 3) tNil))) (gName 3))))
    (tRet (tVar 2)))))
set_option maxHeartbeats 8000000 in
theorem dvSteps {P : Program} {w : World} {K : PySem.W.Frag} {mg : Str → Option Value} {base : Heap} {C aW aP : Addr} {f : Addr} {cdv : Value} {A : Around} {outer : List Env} {s : Shared} {H : Hp} {E : XK} {k : Nat} {nFirstStep : Nat} (T : Bl K w mg C aW aP) {jFirstStep : Nat} (cFirstStep : Cl P w K mg base jFirstStep "first_step" (PFirstStep K C nFirstStep)) (hjFirstStep : jFirstStep ≤ k) (hr : Room k (A.deeper (envOfC "steps" (defScope sSteps) s.heap.objs.size f cdv))) :
    PSs (cxOf L2.CX0 P w K mg base NSteps "steps" (defScope sSteps) f cdv A outer s H E).nox (defBody sSteps) (tSteps K C nFirstStep) :=
  (pss_cons (ps_set (i := 2) scSteps.nd rfl (Or.inl rfl) (pe_lst (pa_cons (pv 1) pa_nil)))
    (pss_cons (ps_set (i := 3) scSteps.nd rfl (Or.inl rfl) (pe_d cFirstStep hr (by omega) (by rfl) (pa_cons (pv 0) (pa_cons (pv 1) pa_nil))))
    (pss_cons (ps_while PassesOwn.never (pt_cmpR op_notN (pv 3) pe_non (nomark _)) (pss_cons (ps_expr (pe_bm PySem.F.plainAttrs_list PySem.F.slot_list_append PySem.F.type_list_append mt_append (pv 2) (pa_cons (pv 3) pa_nil)))
    (pss_one (ps_set (i := 3) scSteps.nd rfl (Or.inl rfl) (pe_d cFirstStep hr (by omega) (by rfl) (pa_cons (pv 0) (pa_cons (pv 3) pa_nil)))))))
    (pss_one (ps_ret (pv 2))))))
abbrev sSame : Stmt := topS 35
abbrev NSame : List Str := ["facts", "one", "other", "closing"]
theorem scSame : FnScope NSame ["facts", "one", "other"] (defScope sSame) := ⟨rfl, rfl, rfl, by decide +kernel, rfl, by decide +kernel, by decide +kernel⟩
def tSame (K : PySem.W.Frag) (C : Addr) : TS :=
  (tSeq (tAsg (tCall (PClosed K C) [] L2.E0 (tCons (tVar 0) tNil)) (gName 3))
    (tRet (tOp (rEqD K) (tOp (rIx K) (tCall (PSteps K C) [] L2.E0 (tCons (tVar 3) (tCons (tVar 1) tNil))) (tUn (rU fun i => .int (-i)) (tC (.int 1)))) (tOp (rIx K) (tCall (PSteps K C) [] L2.E0 (tCons (tVar 3) (tCons (tVar 2) tNil))) (tUn (rU fun i => .int (-i)) (tC (.int 1)))))))
set_option maxHeartbeats 8000000 in
theorem dvSame {P : Program} {w : World} {K : PySem.W.Frag} {mg : Str → Option Value} {base : Heap} {C aW aP : Addr} {f : Addr} {cdv : Value} {A : Around} {outer : List Env} {s : Shared} {H : Hp} {E : XK} {k : Nat} (T : Bl K w mg C aW aP) {jClosed : Nat} (cClosed : Cl P w K mg base jClosed "closed" (PClosed K C)) (hjClosed : jClosed ≤ k)
    {jSteps : Nat} (cSteps : Cl P w K mg base jSteps "steps" (PSteps K C)) (hjSteps : jSteps ≤ k) (hr : Room k (A.deeper (envOfC "same" (defScope sSame) s.heap.objs.size f cdv))) :
    PSs (cxOf L2.CX0 P w K mg base NSame "same" (defScope sSame) f cdv A outer s H E).nox (defBody sSame) (tSame K C) :=
  (pss_cons (ps_set (i := 3) scSame.nd rfl (Or.inl rfl) (pe_d cClosed hr (by omega) (by rfl) (pa_cons (pv 0) pa_nil)))
    (pss_one (ps_ret (pe_cmpR (op_eqD hr.units) (pe_ix ix_seq (pe_d cSteps hr (by omega) (by rfl) (pa_cons (pv 3) (pa_cons (pv 1) pa_nil))) (pe_un un_neg pe_int) (fun _ _ => rfl)) (pe_ix ix_seq (pe_d cSteps hr (by omega) (by rfl) (pa_cons (pv 3) (pa_cons (pv 2) pa_nil))) (pe_un un_neg pe_int) (fun _ _ => rfl)) (nomark _)))))
abbrev sRoad : Stmt := topS 36
abbrev NRoad : List Str := ["facts", "one", "other", "closing", "there", "back"]
theorem scRoad : FnScope NRoad ["facts", "one", "other"] (defScope sRoad) := ⟨rfl, rfl, rfl, by decide +kernel, rfl, by decide +kernel, by decide +kernel⟩
def tRoad (K : PySem.W.Frag) (C : Addr) : TS :=
  (tSeq (tAsg (tCall (PClosed K C) [] L2.E0 (tCons (tVar 0) tNil)) (gName 3))
    (tSeq (tPar 4 5 (tCons (tCall (PSteps K C) [] L2.E0 (tCons (tVar 3) (tCons (tVar 1) tNil))) (tCons (tCall (PSteps K C) [] L2.E0 (tCons (tVar 3) (tCons (tVar 2) tNil))) tNil)))
    (tRet (tIf (tTest (tOp (rEqD K) (tOp (rIx K) (tVar 4) (tUn (rU fun i => .int (-i)) (tC (.int 1)))) (tOp (rIx K) (tVar 5) (tUn (rU fun i => .int (-i)) (tC (.int 1)))))) (tCB (rTupOf K) (tCons (tOp rCat (tVar 4) (tBackL K (tVar 5) (tPart (tUn (rU fun i => .int (-i)) (tC (.int 2)))))) tNil)) (tC .non)))))
set_option maxHeartbeats 8000000 in
theorem dvRoad {P : Program} {w : World} {K : PySem.W.Frag} {mg : Str → Option Value} {base : Heap} {C aW aP : Addr} {f : Addr} {cdv : Value} {A : Around} {outer : List Env} {s : Shared} {H : Hp} {E : XK} {k : Nat} (T : Bl K w mg C aW aP) {jClosed : Nat} (cClosed : Cl P w K mg base jClosed "closed" (PClosed K C)) (hjClosed : jClosed ≤ k)
    {jSteps : Nat} (cSteps : Cl P w K mg base jSteps "steps" (PSteps K C)) (hjSteps : jSteps ≤ k) (hr : Room k (A.deeper (envOfC "road" (defScope sRoad) s.heap.objs.size f cdv))) :
    PSs (cxOf L2.CX0 P w K mg base NRoad "road" (defScope sRoad) f cdv A outer s H E).nox (defBody sRoad) (tRoad K C) :=
  (pss_cons (ps_set (i := 3) scRoad.nd rfl (Or.inl rfl) (pe_d cClosed hr (by omega) (by rfl) (pa_cons (pv 0) pa_nil)))
    (pss_cons (ps_par (i := 4) (j := 5) rfl scRoad.nd rfl rfl (by decide) rfl rfl (pa_cons (pe_d cSteps hr (by omega) (by rfl) (pa_cons (pv 3) (pa_cons (pv 1) pa_nil))) (pa_cons (pe_d cSteps hr (by omega) (by rfl) (pa_cons (pv 3) (pa_cons (pv 2) pa_nil))) pa_nil)) (by rfl))
    (pss_one (ps_ret (pe_ifExp (pt_cmpR (op_eqD hr.units) (pe_ix ix_seq (pv 4) (pe_un un_neg pe_int) (fun _ _ => rfl)) (pe_ix ix_seq (pv 5) (pe_un un_neg pe_int) (fun _ _ => rfl)) (nomark _)) (pe_callTy call_tuple_of (by rfl) T.tuple_ (by decide +kernel) (pa_cons (pe_op op_cat (pv 4) (pe_backL (pv 5) (po_some (pe_un un_neg pe_int)))) pa_nil)) pe_non)))))
abbrev sIsMove : Stmt := topS 37
abbrev NIsMove : List Str := ["closing", "one", "other", "long", "short", "name"]
theorem scIsMove : FnScope NIsMove ["closing", "one", "other"] (defScope sIsMove) := ⟨rfl, rfl, rfl, by decide +kernel, rfl, by decide +kernel, by decide +kernel⟩
def tIsMove (K : PySem.W.Frag) (C : Addr) : TS :=
  (tSeq (tIfS (tAnd (tB (tCall (PIsName K C) [] L2.E0 (tCons (tVar 1) tNil))) (tB (tCall (PIsName K C) [] L2.E0 (tCons (tVar 2) tNil)))) (tRet (tAndV (tOp (rNeD K) (tVar 1) (tVar 2)) (tOp (rEqD K) (tMeth C "root" (PClosingRoot K C) [] L2.E0 (tVar 0) (tCons (tVar 1) tNil)) (tMeth C "root" (PClosingRoot K C) [] L2.E0 (tVar 0) (tCons (tVar 2) tNil))))) tNext)
    (tSeq (tFor (iList K (tLst (tCons (tTup (tCons (tVar 1) (tCons (tVar 2) tNil))) (tCons (tTup (tCons (tVar 2) (tCons (tVar 1) tNil))) tNil)))) (gTup K 2 (gCons (gName 3) (gCons (gName 4) gNil))) (tIfS (tNot (tB (tCall (PIsName K C) [] L2.E0 (tCons (tVar 3) tNil)))) (tSeq (tAsg (tCall (PEntryTold K C) [] L2.E0 (tCons (tVar 0) (tCons (tVar 3) tNil))) (gName 5))
    (tSeq (tIfS (tAnd (tTest (tOp rNotNo (tVar 5) (tC .non))) (tAnd (tB (tCall (PIsName K C) [] L2.E0 (tCons (tVar 4) tNil))) (tTest (tOp (rEqD K) (tMeth C "root" (PClosingRoot K C) [] L2.E0 (tVar 0) (tCons (tVar 4) tNil)) (tVar 5))))) (tRet (tC (.bl true))) tNext)
    (tIfS (tOr (tTest (tOp (rEqD K) (tCall (PRuleTold K C) [] L2.E0 (tCons (tVar 3) tNil)) (tVar 4))) (tTest (tOp (rEqD K) (tCall (POtherRuleTold K C) [] L2.E0 (tCons (tVar 3) tNil)) (tVar 4)))) (tRet (tC (.bl true))) tNext))) tNext))
    (tRet (tC (.bl false)))))
set_option maxHeartbeats 8000000 in
theorem dvIsMove {P : Program} {w : World} {K : PySem.W.Frag} {mg : Str → Option Value} {base : Heap} {C aW aP : Addr} {f : Addr} {cdv : Value} {A : Around} {outer : List Env} {s : Shared} {H : Hp} {E : XK} {k : Nat} (T : Bl K w mg C aW aP) {jIsName : Nat} (cIsName : Cl P w K mg base jIsName "is_name" (PIsName K C)) (hjIsName : jIsName ≤ k)
    {jClosingRoot : Nat} (cClosingRoot : Mt P w K mg base jClosingRoot C "root" (PClosingRoot K C)) (hjClosingRoot : jClosingRoot ≤ k)
    {jEntryTold : Nat} (cEntryTold : Cl P w K mg base jEntryTold "entry_told" (PEntryTold K C)) (hjEntryTold : jEntryTold ≤ k)
    {jRuleTold : Nat} (cRuleTold : Cl P w K mg base jRuleTold "rule_told" (PRuleTold K C)) (hjRuleTold : jRuleTold ≤ k)
    {jOtherRuleTold : Nat} (cOtherRuleTold : Cl P w K mg base jOtherRuleTold "other_rule_told" (POtherRuleTold K C)) (hjOtherRuleTold : jOtherRuleTold ≤ k) (hr : Room k (A.deeper (envOfC "is_move" (defScope sIsMove) s.heap.objs.size f cdv))) :
    PSs (cxOf L2.CX0 P w K mg base NIsMove "is_move" (defScope sIsMove) f cdv A outer s H E).nox (defBody sIsMove) (tIsMove K C) :=
  (pss_cons (ps_if (PW.pt (pw_and (pt_val (pe_d cIsName hr (by omega) (by rfl) (pa_cons (pv 1) pa_nil))) (pw_and1 (pt_val (pe_d cIsName hr (by omega) (by rfl) (pa_cons (pv 2) pa_nil)))))) (pss_one (ps_ret (pe_and (pe_cmpR (op_neD hr.units) (pv 1) (pv 2) (nomark _)) (pe_one (pe_cmpR (op_eqD hr.units) (pe_m cClosingRoot hr (by omega) (pv 0) (pa_cons (pv 1) pa_nil)) (pe_m cClosingRoot hr (by omega) (pv 0) (pa_cons (pv 2) pa_nil)) (nomark _)))))) pss_nil)
    (pss_cons (ps_for PassesOwn.never rfl (pi_list (pe_lst (pa_cons (pe_tup (pa_cons (pv 1) (pa_cons (pv 2) pa_nil))) (pa_cons (pe_tup (pa_cons (pv 2) (pa_cons (pv 1) pa_nil))) pa_nil)))) (pg_tup rfl (pgs_cons (pg_name (i := 3) scIsMove.nd rfl (Or.inl rfl)) (pgs_cons (pg_name (i := 4) scIsMove.nd rfl (Or.inl rfl)) pgs_nil))) (pss_one (ps_if (pt_not (pt_val (pe_d cIsName hr (by omega) (by rfl) (pa_cons (pv 3) pa_nil)))) (pss_cons (ps_set (i := 5) scIsMove.nd rfl (Or.inl rfl) (pe_d cEntryTold hr (by omega) (by rfl) (pa_cons (pv 0) (pa_cons (pv 3) pa_nil))))
    (pss_cons (ps_if (PW.pt (pw_and (pt_cmpR op_notN (pv 5) pe_non (nomark _)) (pw_and (pt_val (pe_d cIsName hr (by omega) (by rfl) (pa_cons (pv 4) pa_nil))) (pw_and1 (pt_cmpR (op_eqD hr.units) (pe_m cClosingRoot hr (by omega) (pv 0) (pa_cons (pv 4) pa_nil)) (pv 5) (nomark _)))))) (pss_one (ps_ret pe_bl)) pss_nil)
    (pss_one (ps_if (PW.pt (pw_or (pt_cmpR (op_eqD hr.units) (pe_d cRuleTold hr (by omega) (by rfl) (pa_cons (pv 3) pa_nil)) (pv 4) (nomark _)) (pw_or1 (pt_cmpR (op_eqD hr.units) (pe_d cOtherRuleTold hr (by omega) (by rfl) (pa_cons (pv 3) pa_nil)) (pv 4) (nomark _))))) (pss_one (ps_ret pe_bl)) pss_nil)))) pss_nil)))
    (pss_one (ps_ret pe_bl))))
abbrev sIsStep : Stmt := topS 39
abbrev NIsStep : List Str := ["closing", "one", "other"]
theorem scIsStep : FnScope NIsStep ["closing", "one", "other"] (defScope sIsStep) := ⟨rfl, rfl, rfl, by decide +kernel, rfl, by decide +kernel, by decide +kernel⟩
def tIsStep (K : PySem.W.Frag) (C : Addr) (nIsStep : Nat) : TS :=
  (tSeq (tIfS (tB (tCall (PIsMove K C) [] L2.E0 (tCons (tVar 0) (tCons (tVar 1) (tCons (tVar 2) tNil))))) (tRet (tC (.bl true))) tNext)
    (tSeq (tIfS (tOr (tB (tCall (PIsName K C) [] L2.E0 (tCons (tVar 1) tNil))) (tOr (tB (tCall (PIsName K C) [] L2.E0 (tCons (tVar 2) tNil))) (tTest (tOp (rNeD K) (tOp (rIx K) (tVar 1) (tC (.int 0))) (tOp (rIx K) (tVar 2) (tC (.int 0))))))) (tRet (tC (.bl false))) tNext)
    (tSeq (tIfS (tTest (tOp (rEqD K) (tOp (rIx K) (tVar 1) (tC (.int 1))) (tOp (rIx K) (tVar 2) (tC (.int 1))))) (tRet (tCall (PIsStep K C nIsStep) [] L2.E0 (tCons (tVar 0) (tCons (tOp (rIx K) (tVar 1) (tC (.int 2))) (tCons (tOp (rIx K) (tVar 2) (tC (.int 2))) tNil))))) tNext)
    (tRet (tAndV (tOp (rEqD K) (tOp (rIx K) (tVar 1) (tC (.int 2))) (tOp (rIx K) (tVar 2) (tC (.int 2)))) (tCall (PIsStep K C nIsStep) [] L2.E0 (tCons (tVar 0) (tCons (tOp (rIx K) (tVar 1) (tC (.int 1))) (tCons (tOp (rIx K) (tVar 2) (tC (.int 1))) tNil)))))))))
set_option maxHeartbeats 8000000 in
theorem dvIsStep {P : Program} {w : World} {K : PySem.W.Frag} {mg : Str → Option Value} {base : Heap} {C aW aP : Addr} {f : Addr} {cdv : Value} {A : Around} {outer : List Env} {s : Shared} {H : Hp} {E : XK} {k : Nat} {nIsStep : Nat} (T : Bl K w mg C aW aP) {jIsName : Nat} (cIsName : Cl P w K mg base jIsName "is_name" (PIsName K C)) (hjIsName : jIsName ≤ k)
    {jIsMove : Nat} (cIsMove : Cl P w K mg base jIsMove "is_move" (PIsMove K C)) (hjIsMove : jIsMove ≤ k)
    {jIsStep : Nat} (cIsStep : Cl P w K mg base jIsStep "is_step" (PIsStep K C nIsStep)) (hjIsStep : jIsStep ≤ k) (hr : Room k (A.deeper (envOfC "is_step" (defScope sIsStep) s.heap.objs.size f cdv))) :
    PSs (cxOf L2.CX0 P w K mg base NIsStep "is_step" (defScope sIsStep) f cdv A outer s H E).nox (defBody sIsStep) (tIsStep K C nIsStep) :=
  (pss_cons (ps_if (pt_val (pe_d cIsMove hr (by omega) (by rfl) (pa_cons (pv 0) (pa_cons (pv 1) (pa_cons (pv 2) pa_nil))))) (pss_one (ps_ret pe_bl)) pss_nil)
    (pss_cons (ps_if (PW.pt (pw_or (pt_val (pe_d cIsName hr (by omega) (by rfl) (pa_cons (pv 1) pa_nil))) (pw_or (pt_val (pe_d cIsName hr (by omega) (by rfl) (pa_cons (pv 2) pa_nil))) (pw_or1 (pt_cmpR (op_neD hr.units) (pe_ix ix_seq (pv 1) pe_int (fun _ _ => rfl)) (pe_ix ix_seq (pv 2) pe_int (fun _ _ => rfl)) (nomark _)))))) (pss_one (ps_ret pe_bl)) pss_nil)
    (pss_cons (ps_if (pt_cmpR (op_eqD hr.units) (pe_ix ix_seq (pv 1) pe_int (fun _ _ => rfl)) (pe_ix ix_seq (pv 2) pe_int (fun _ _ => rfl)) (nomark _)) (pss_one (ps_ret (pe_d cIsStep hr (by omega) (by rfl) (pa_cons (pv 0) (pa_cons (pe_ix ix_seq (pv 1) pe_int (fun _ _ => rfl)) (pa_cons (pe_ix ix_seq (pv 2) pe_int (fun _ _ => rfl)) pa_nil)))))) pss_nil)
    (pss_one (ps_ret (pe_and (pe_cmpR (op_eqD hr.units) (pe_ix ix_seq (pv 1) pe_int (fun _ _ => rfl)) (pe_ix ix_seq (pv 2) pe_int (fun _ _ => rfl)) (nomark _)) (pe_one (pe_d cIsStep hr (by omega) (by rfl) (pa_cons (pv 0) (pa_cons (pe_ix ix_seq (pv 1) pe_int (fun _ _ => rfl)) (pa_cons (pe_ix ix_seq (pv 2) pe_int (fun _ _ => rfl)) pa_nil)))))))))))
abbrev sIsRoad : Stmt := topS 40
abbrev NIsRoad : List Str := ["facts", "one", "other", "value", "closing", "formula", "here", "there"]
theorem scIsRoad : FnScope NIsRoad ["facts", "one", "other", "value"] (defScope sIsRoad) := ⟨rfl, rfl, rfl, by decide +kernel, rfl, by decide +kernel, by decide +kernel⟩
def tIsRoad (K : PySem.W.Frag) (C : Addr) (nIsStep : Nat) : TS :=
  (tSeq (tAsg (tCall (PClosed K C) [] L2.E0 (tCons (tVar 0) tNil)) (gName 4))
    (tSeq (tIfS (tOr (tNot (tB (tCB (rIsi K) (tCons (tVar 3) (tCons (tC (.ty "tuple")) tNil))))) (tNot (tTest (tChain (rI0 fun i j => .bl (decide (i ≤ j))) (rI0 fun i j => .bl (decide (i ≤ j))) (tC (.int 1)) (tCB (rLenK K) (tCons (tVar 3) tNil)) (tC (.int 40)))))) (tRet (tC (.bl false))) tNext)
    (tSeq (tIfS (tB (tCB (rAny K) (tCons (tLc (iTup K (tVar 3)) (gName 5) tYes (tOp rNotNo (tCall (PFormulaError K C) [] L2.E0 (tCons (tOp (rIx K) (tVar 0) (tC (.int 0))) (tCons (tVar 5) tNil))) (tC .non)) [5]) tNil))) (tRet (tC (.bl false))) tNext)
    (tSeq (tIfS (tOr (tTest (tOp (rNeD K) (tOp (rIx K) (tVar 3) (tC (.int 0))) (tVar 1))) (tTest (tOp (rNeD K) (tOp (rIx K) (tVar 3) (tUn (rU fun i => .int (-i)) (tC (.int 1)))) (tVar 2)))) (tRet (tC (.bl false))) tNext)
    (tRet (tCB (rAll K) (tCons (tLc (RZ.iZipA K (tCons (tVar 3) (tCons (tSl (rSlA K) (tVar 3) (tPart (tC (.int 1))) tNoPart) tNil))) (gTup K 2 (gCons (gName 6) (gCons (gName 7) gNil))) tYes (tCall (PIsStep K C nIsStep) [] L2.E0 (tCons (tVar 4) (tCons (tVar 6) (tCons (tVar 7) tNil)))) [6, 7]) tNil)))))))
set_option maxHeartbeats 8000000 in
theorem dvIsRoad {P : Program} {w : World} {K : PySem.W.Frag} {mg : Str → Option Value} {base : Heap} {C aW aP : Addr} {f : Addr} {cdv : Value} {A : Around} {outer : List Env} {s : Shared} {H : Hp} {E : XK} {k : Nat} {nIsStep : Nat} (T : Bl K w mg C aW aP) {jFormulaError : Nat} (cFormulaError : Cl P w K mg base jFormulaError "formula_error" (PFormulaError K C)) (hjFormulaError : jFormulaError ≤ k)
    {jClosed : Nat} (cClosed : Cl P w K mg base jClosed "closed" (PClosed K C)) (hjClosed : jClosed ≤ k)
    {jIsStep : Nat} (cIsStep : Cl P w K mg base jIsStep "is_step" (PIsStep K C nIsStep)) (hjIsStep : jIsStep ≤ k) (hr : Room k (A.deeper (envOfC "is_road" (defScope sIsRoad) s.heap.objs.size f cdv))) :
    PSs (cxOf L2.CX0 P w K mg base NIsRoad "is_road" (defScope sIsRoad) f cdv A outer s H E).nox (defBody sIsRoad) (tIsRoad K C nIsStep) :=
  (pss_cons (ps_set (i := 4) scIsRoad.nd rfl (Or.inr rfl) (pe_d cClosed hr (by omega) (by rfl) (pa_cons (pv 0) pa_nil)))
    (pss_cons (ps_if (PW.pt (pw_or (pt_not (pt_val (pe_callB call_isi (by rfl) T.isinstance_ (by decide +kernel) (pa_cons (pv 3) (pa_cons (pe_bltn (v := .ty "tuple") (by rfl) T.tuple_ boot_tuple rfl) pa_nil))))) (pw_or1 (pt_not (pt_chain op_le op_le pe_int (pe_callB call_len_seq (by rfl) T.len_ PySem.boot_len (pa_cons (pv 3) pa_nil)) (C8.pe_gc (by rfl) T.gMAX_ROAD)))))) (pss_one (ps_ret pe_bl)) pss_nil)
    (pss_cons (ps_if (pt_val (pe_callB (cr_any rfl) (by rfl) T.any_ (by decide +kernel) (pa_cons (pe_lc (own := [("formula", 5)]) (g := (gName 5)) (tt := tYes) (te := (tOp rNotNo (tCall (PFormulaError K C) [] L2.E0 (tCons (tOp (rIx K) (tVar 0) (tC (.int 0))) (tCons (tVar 5) tNil))) (tC .non))) rfl scIsRoad.nd (pi_tup (pv 3)) (blkOk_by (N := NIsRoad) (sc := (defScope sIsRoad)) (own := [("formula", 5)]) (by decide +kernel)) (fun _ _ _ _ _ => (pg_name (i := 5) scIsRoad.nd rfl (Or.inl rfl))) (fun _ _ _ _ _ => pts_nil) (fun _ _ _ _ _ => (pe_cmpR op_notN (pe_d cFormulaError hr (by omega) (by rfl) (pa_cons (pe_ix ix_seq (pv 0) pe_int (fun _ _ => rfl)) (pa_cons (pv 5) pa_nil))) pe_non (nomark _)))) pa_nil))) (pss_one (ps_ret pe_bl)) pss_nil)
    (pss_cons (ps_if (PW.pt (pw_or (pt_cmpR (op_neD hr.units) (pe_ix ix_seq (pv 3) pe_int (fun _ _ => rfl)) (pv 1) (nomark _)) (pw_or1 (pt_cmpR (op_neD hr.units) (pe_ix ix_seq (pv 3) (pe_un un_neg pe_int) (fun _ _ => rfl)) (pv 2) (nomark _))))) (pss_one (ps_ret pe_bl)) pss_nil)
    (pss_one (ps_ret (pe_callB (cr_all rfl) (by rfl) T.all_ (by decide +kernel) (pa_cons (pe_lc (own := [("here", 6), ("there", 7)]) (g := (gTup K 2 (gCons (gName 6) (gCons (gName 7) gNil)))) (tt := tYes) (te := (tCall (PIsStep K C nIsStep) [] L2.E0 (tCons (tVar 4) (tCons (tVar 6) (tCons (tVar 7) tNil))))) rfl scIsRoad.nd (RZ.pi_zipA (by rfl) T.zip_ (pa_cons (pv 3) (pa_cons (pe_slice sl_tupA (pv 3) (po_some pe_int) po_none) pa_nil))) (blkOk_by (N := NIsRoad) (sc := (defScope sIsRoad)) (own := [("here", 6), ("there", 7)]) (by decide +kernel)) (fun _ _ _ _ _ => (pg_tup rfl (pgs_cons (pg_name (i := 6) scIsRoad.nd rfl (Or.inl rfl)) (pgs_cons (pg_name (i := 7) scIsRoad.nd rfl (Or.inl rfl)) pgs_nil)))) (fun _ _ _ _ _ => pts_nil) (fun _ _ _ _ _ => (pe_d cIsStep hr (by omega) (by rfl) (pa_cons (pv 4) (pa_cons (pv 6) (pa_cons (pv 7) pa_nil)))))) pa_nil))))))))
end RD

end
section
set_option linter.all false
set_option maxRecDepth 100000
set_option maxHeartbeats 4000000
/-! E3: more rules; the defs that look at a closing. -/
namespace RD
open PySem PySem.Spec PyProof.Rows L2

structure Dm (K : PySem.W.Frag) (C : Addr) (m qual : Str) (st : Stmt) (ps : List Str) : Prop where
  ex : ∃ (f : Addr) (fd : FuncData), Cls K C ∧ Meth K C m f ∧ L2.Fun K m qual st f fd ∧ Binds K fd ps []
section
variable {P : Program} {w : World} {K : PySem.W.Frag} {mg : Str → Option Value} {base : Heap} {C : Addr} {α : Type} {pre : α → Prop} {args : α → List Sh} {res : α → Sh → Prop}
theorem pd_mt {x qual : Str} {st : Stmt} {N ps : List Str} {k : Nat} (d : Dm K C x qual st ps) (sc : FnScope N ps (defScope st)) (hl : ∀ a, (args a).length = ps.length) (hi : ∀ a, (args a).all Sh.pure = true)
    (body : ∀ (f : Addr) (cdv : Value) (A : Around) (outer : List Env) (s : Shared) (H : Hp) (E : XK) (a : α), Room k (A.deeper (envOfC qual (defScope st) s.heap.objs.size f cdv)) → pre a →
      ∃ t, PSs (cxOf L2.CX0 P w K mg base N qual (defScope st) f cdv A outer s H E).nox (defBody st) t ∧ DS K C none t (rho0 N (args a)) { rt := res a }) : Mt P w K mg base (k + 1) C x (Pr K C (fun _ => none) pre args res) := by
  obtain ⟨f, fd, c, me, F, b⟩ := d.ex
  exact ⟨f, fd, ps, c, me, pr_fn F sc hl (fun a s hs => pure_im (List.all_eq_true.mp (hi a) s hs)) (fun a b hb => by
    have := List.all_eq_true.mp (hi a) _ hb
    cases this) (fun a b e => nomatch e) (body f), b⟩
end
section
variable {K : PySem.W.Frag} {C : Addr} {m : Option Addr} {r r' : Rho} {ta tb tc te : TE} {t u : TT} {P : Sh → Prop} {O : Out} {tu tz : TS} {g : TG}
/-- a last assignment -/
theorem ds_set1X {i : Nat} (h : EvX K C m te r P) (hi : ∀ s, P s → s.im = true ∧ ∀ b, s ≠ .bag b) (k : ∀ s, P s → O.nx (r.set i (some s))) : DS K C m (tAsg te (gName i)) r O := fun S0 H0 σ S H D st k1 k2 k3 k4 =>
  h S0 H0 σ S H st _ fun v s S1 H1 p st1 hv => k1 _ _ S1 H1 (k s p) ((st.step st1).put (hi s p).1 (fun b e => absurd e ((hi s p).2 b)) hv)
theorem ds_set1 {i : Nat} {y : PyData} (h : EvX K C m te r (fun z => z = .d y)) (k : O.nx (r.set i (some (.d y)))) : DS K C m (tAsg te (gName i)) r O :=
  ds_set1X h (fun s e => by rw [e]; exact ⟨rfl, fun _ z => nomatch z⟩) fun s e => by rw [e]; exact k
theorem ds_never {O : Out} (h : False) : DS K C m tNever r O := h.elim
/-- a, b = x, y (neither read by the other's new value) -/
theorem ds_par2 {i j : Nat} {tA : TA} {s1 s2 : Sh} (h : EvA K C m tA r (fun z => z = [s1, s2])) (i1 : s1.im = true) (i2 : s2.im = true) (b1 : ∀ b, s1 ≠ .bag b) (b2 : ∀ b, s2 ≠ .bag b) (k : DS K C m tz ((r.set i (some s1)).set j (some s2)) O) : DS K C m (tSeq (tPar i j tA) tz) r O := fun S0 H0 σ S H D st k1 k2 k3 k4 =>
  h S0 H0 σ S H st _ fun vs ss S1 H1 e st1 hv => by
    subst e
    cases hv with
    | cons h1 ht =>
      cases ht with
      | cons h2 hu =>
        cases hu
        exact ⟨_, _, rfl, k S0 H0 _ S1 H1 D (((st.step st1).put i1 (fun b e => absurd e (b1 b)) h1).put i2 (fun b e => absurd e (b2 b)) h2) k1 k2 k3 k4⟩
/-- a op b op c -/
theorem et_chain {q q' : R2} {s1 s2 s3 : Sh} {a b : Bool} (h1 : EvX K C m ta r (fun z => z = s1)) (h2 : EvX K C m tb r (fun z => z = s2)) (h3 : EvX K C m tc r (fun z => z = s3)) (hr : RX K C q s1 s2 (fun z => z = .d (.bool a))) (hr' : RX K C q' s2 s3 (fun z => z = .d (.bool b)))
    (i1 : s1.im = true := by rfl) (i2 : s2.im = true := by rfl) : EvT K C m (tTest (tChain q q' ta tb tc)) r (fun z => z = (a && b)) := fun S0 H0 σ S H x Q k =>
  h1 S0 H0 σ S H x _ fun v w S1 H1 e st1 hv => by
    subst e
    have x1 := x.step st1
    refine h2 S0 H0 σ S1 H1 x1 _ fun v2 w2 S2 H2 e2 st2 hv2 => ?_
    subst e2
    have x2 := x1.step st2
    refine hr S2 H2 v v2 x2.sh (sh_im st2 i1 hv) hv2 _ fun v3 s3 S3 H3 p st3 hv3 => ?_
    subst p
    cases hv3
    refine ⟨a, rfl, ?_⟩
    have st : Stp m S H S3 H3 := st1.trans (st2.trans st3.wide)
    cases a with
    | false => exact iteF ⟨false, rfl, k false S3 H3 rfl st⟩
    | true =>
      refine iteT (h3 S0 H0 σ S3 H3 (x2.step st3.wide) _ fun v4 w4 S4 H4 e4 st4 hv4 => ?_)
      subst e4
      refine hr' S4 H4 v2 v4 ((x2.step st3.wide).step st4).sh (sh_im st4 i2 (sh_im st3 i2 hv2)) hv4 _ fun v5 s5 S5 H5 p st5 hv5 => ?_
      subst p
      cases hv5
      exact ⟨b, rfl, k b S5 H5 rfl (st.trans (st4.trans st5.wide))⟩
/-- PLACES[word] -/
theorem er_places {w : World} {mg : Str → Option Value} {aW aP : Addr} {v : Wd} (T : Bl K w mg C aW aP) (h : EvX K C m te r (fun z => z = .d (.str v.s))) : EvX K C m (tOp (rIxD K w) (tC (.ref aP)) te) r (fun z => z = .d (placesD v)) := fun S0 H0 σ S H x Q q => by
  show te σ H _
  refine h S0 H0 σ S H x _ fun v1 s1 S1 H1 e st1 hv => ?_
  subst e
  cases hv
  obtain ⟨z, h1, h2⟩ := T.places v
  exact ⟨aP, v.s, z, rfl, rfl, h1, q z _ S1 H1 rfl st1 (dp_none h2)⟩
theorem er_pl0 {v : Wd} {e : Ent} (h1 : EvX K C m ta r (fun z => z = .d (rowD e))) (h2 : EvX K C m tb r (fun z => z = .d (placesD v))) : EvX K C m (tOp (rIx K) ta (tOp (rIx K) tb (tC (.int 0)))) r (fun z => z = .d (natD (pl v e).1)) := by
  cases v
  · exact er_op h1 (er_op h2 (er_int 0) (rx_ixT (x := natD 0) rfl)) (rx_ixT rfl)
  · exact er_op h1 (er_op h2 (er_int 0) (rx_ixT (x := natD 0) rfl)) (rx_ixT rfl)
  · exact er_op h1 (er_op h2 (er_int 0) (rx_ixT (x := natD 1) rfl)) (rx_ixT rfl)
theorem er_pl1 {v : Wd} {e : Ent} (h1 : EvX K C m ta r (fun z => z = .d (rowD e))) (h2 : EvX K C m tb r (fun z => z = .d (placesD v))) : EvX K C m (tOp (rIx K) ta (tOp (rIx K) tb (tC (.int 1)))) r (fun z => z = .d (natD (pl v e).2.1)) := by
  cases v
  · exact er_op h1 (er_op h2 (er_int 1) (rx_ixT (x := natD 1) rfl)) (rx_ixT rfl)
  · exact er_op h1 (er_op h2 (er_int 1) (rx_ixT (x := natD 2) rfl)) (rx_ixT rfl)
  · exact er_op h1 (er_op h2 (er_int 1) (rx_ixT (x := natD 2) rfl)) (rx_ixT rfl)
theorem er_pl2 {v : Wd} {e : Ent} (h1 : EvX K C m ta r (fun z => z = .d (rowD e))) (h2 : EvX K C m tb r (fun z => z = .d (placesD v))) : EvX K C m (tOp (rIx K) ta (tOp (rIx K) tb (tC (.int 2)))) r (fun z => z = .d (natD (pl v e).2.2)) := by
  cases v
  · exact er_op h1 (er_op h2 (er_int 2) (rx_ixT (x := natD 2) rfl)) (rx_ixT rfl)
  · exact er_op h1 (er_op h2 (er_int 2) (rx_ixT (x := natD 1) rfl)) (rx_ixT rfl)
  · exact er_op h1 (er_op h2 (er_int 2) (rx_ixT (x := natD 0) rfl)) (rx_ixT rfl)
theorem et_eqN {a b : Nat} (h1 : EvX K C m ta r (fun z => z = .d (natD a))) (h2 : EvX K C m tb r (fun z => z = .d (natD b))) : EvT K C m (tTest (tOp (rEqD K) ta tb)) r (fun z => z = decide (a = b)) :=
  et_is (et_val (er_op h1 h2 (rx_eqD (shaped_int _) (shaped_int _)))) (eqv_nat a b)
theorem et_neN {a b : Nat} (h1 : EvX K C m ta r (fun z => z = .d (natD a))) (h2 : EvX K C m tb r (fun z => z = .d (natD b))) : EvT K C m (tTest (tOp (rNeD K) ta tb)) r (fun z => z = !decide (a = b)) :=
  et_is (et_val (er_op h1 h2 (rx_neD (shaped_int _) (shaped_int _)))) (by rw [eqv_nat])
theorem er_eqN {a b : Nat} (h1 : EvX K C m ta r (fun z => z = .d (natD a))) (h2 : EvX K C m tb r (fun z => z = .d (natD b))) : EvX K C m (tOp (rEqD K) ta tb) r (fun z => z = .d (.bool (decide (a = b)))) :=
  (er_op h1 h2 (rx_eqD (shaped_int _) (shaped_int _))).is (by rw [eqv_nat])
theorem er_neN {a b : Nat} (h1 : EvX K C m ta r (fun z => z = .d (natD a))) (h2 : EvX K C m tb r (fun z => z = .d (natD b))) : EvX K C m (tOp (rNeD K) ta tb) r (fun z => z = .d (.bool (!decide (a = b)))) :=
  (er_op h1 h2 (rx_neD (shaped_int _) (shaped_int _))).is (by rw [eqv_nat])
theorem ixN_nat {n i : Nat} (h : i < n) : ixN n (i : Int) = some i := by
  unfold ixN
  have e : (i : Int).toNat = i := Int.toNat_natCast i
  rw [if_pos (Int.natCast_nonneg i), if_pos (by omega), e]
theorem atI_nat {α : Type} {l : List α} {i : Nat} (h : i < l.length) : atI l (i : Int) = l[i]? := by
  unfold atI
  rw [ixN_nat h] <;> rfl
theorem atI_natD {el : List Nat} {x : Nat} (h : x < el.length) : atI (el.map natD) (x : Int) = some (natD (el.getD x x)) := by
  rw [atI_nat (by rw [List.length_map]; exact h), List.getElem?_map, List.getD_eq_getElem?_getD, List.getElem?_eq_getElem h] <;> rfl

/-! iterators -/
/-- enumerate(a tuple) -/
def enumD (ds : List PyData) : List PyData := (List.range ds.length).map fun i => .tuple [natD i, ds.getD i .none]
theorem it_enumT {ds : List PyData} {te : TE} (h : EvX K C m te r (fun z => z = .d (.tuple ds))) : ItX K C m (iEnumT K (tCons te tNil)) r (enumD ds) := fun S0 H0 σ S H st R q => by
  show te σ H _
  refine h S0 H0 σ S H st _ fun v s S1 H1 e st1 hv => ?_
  subst e
  have ln0 : (enumD ds).length = ds.length := by unfold enumD; rw [List.length_map, List.length_range]
  cases hv with
  | @tup a vs _ hq ha =>
    have ln := dpa_len ha
    refine ⟨a, vs, rfl, same_t st1.sh hq, q _ S1 H1 st1 ⟨fun i S' H' e1 e2 hi => ?_, fun S' H' e1 e2 => ⟨vs, same_t e2 (same_t e1 hq), by rw [ln0, ln]⟩, fun i d S' H' hd e1 e2 x H'' hy => ?_⟩⟩
    · rw [ln0] at hi
      exact ⟨vs, vs[i]'(by rw [ln]; exact hi), same_t e2 (same_t e1 hq), List.getElem?_eq_getElem _⟩
    · obtain ⟨T, y, rfl, hT, rfl, hy⟩ := hy
      have hi : i < ds.length := by
        rw [← ln0]
        exact (List.getElem?_eq_some_iff.mp hd).1
      obtain ⟨u, hu, hud⟩ := dpa_get ha (List.getElem?_eq_getElem hi)
      have ey : some u = some y := hu.symm.trans (hy vs (same_t e2 (same_t e1 hq)))
      cases ey
      have ed : d = .tuple [natD i, ds[i]] := by
        unfold enumD at hd
        rw [List.getElem?_map, List.getElem?_range hi] at hd
        cases hd
        show PyData.tuple [natD i, ds.getD i .none] = _
        rw [List.getD_eq_getElem?_getD, List.getElem?_eq_getElem hi] <;> rfl
      subst ed
      have sn : Stp none S' H' (upd S' T (.tup [.int (i : Nat), y])) (upd H' T (.tup [.int (i : Nat), y])) := Stp.new e2 hT
      exact ⟨_, sn, .tup (.inl (.inl upd_same)) (.cons (.int _) (.cons (dp_mono sn.ss (dp_mono e1 hud)) .nil))⟩
/-- zip(a tuple, a tuple) -/
def pairsD : List PyData → List PyData → List PyData
  | x :: xs, y :: ys => .tuple [x, y] :: pairsD xs ys
  | _, _ => []
theorem pairs_len : ∀ xs ys, (pairsD xs ys).length = min xs.length ys.length
  | [], ys => by simp [pairsD]
  | x :: xs, [] => by simp [pairsD]
  | x :: xs, y :: ys => by
    show (pairsD xs ys).length + 1 = min (xs.length + 1) (ys.length + 1)
    rw [pairs_len xs ys]
    omega
theorem pairs_get : ∀ {xs ys : List PyData} {i : Nat} {d : PyData}, (pairsD xs ys)[i]? = some d → ∃ x y, xs[i]? = some x ∧ ys[i]? = some y ∧ d = .tuple [x, y]
  | [], ys, i, d, h => by simp [pairsD] at h
  | x :: xs, [], i, d, h => by simp [pairsD] at h
  | x :: xs, y :: ys, 0, d, h => ⟨x, y, rfl, rfl, by
    have : some (PyData.tuple [x, y]) = some d := h
    exact (Option.some.inj this).symm⟩
  | x :: xs, y :: ys, i + 1, d, h => by
    have h' : (pairsD xs ys)[i]? = some d := h
    obtain ⟨a, b, h1, h2, h3⟩ := pairs_get h'
    exact ⟨a, b, h1, h2, h3⟩
theorem it_zipT {xs ys : List PyData} {tA : TA} (h : EvA K C m tA r (fun z => z = dsOf [.tuple xs, .tuple ys])) : ItX K C m (RZ.iZipA K tA) r (pairsD xs ys) := fun S0 H0 σ S H st R q => by
  refine h S0 H0 σ S H st _ fun vs ss S1 H1 e st1 hv => ?_
  subst e
  have ln0 := pairs_len xs ys
  cases paired_d hv with
  | cons hx ht =>
    cases ht with
    | cons hy hn =>
      cases hn
      cases hx with
      | @tup a us _ hq ha =>
        cases hy with
        | @tup b ws _ hq2 ha2 =>
          have l1 := dpa_len ha
          have l2 := dpa_len ha2
          refine ⟨a, b, us, ws, rfl, .inr ⟨same_t st1.sh hq, same_t st1.sh hq2, q _ S1 H1 st1 ⟨fun i S' H' e1 e2 hi => ?_, fun S' H' e1 e2 => ⟨us, ws, same_t e2 (same_t e1 hq), same_t e2 (same_t e1 hq2), by omega⟩, fun i d S' H' hd e1 e2 x H'' hy => ?_⟩⟩⟩
          · exact ⟨us, ws, us[i]'(by omega), ws[i]'(by omega), same_t e2 (same_t e1 hq), same_t e2 (same_t e1 hq2), List.getElem?_eq_getElem _, List.getElem?_eq_getElem _⟩
          · obtain ⟨T, y, z, rfl, hT, rfl, hy, hz⟩ := hy
            obtain ⟨dx, dy, g1, g2, rfl⟩ := pairs_get hd
            obtain ⟨u, hu, hud⟩ := dpa_get ha g1
            obtain ⟨u2, hu2, hud2⟩ := dpa_get ha2 g2
            have e3 : some u = some y := hu.symm.trans (hy us (same_t e2 (same_t e1 hq)))
            have e4 : some u2 = some z := hu2.symm.trans (hz ws (same_t e2 (same_t e1 hq2)))
            cases e3
            cases e4
            have sn : Stp none S' H' (upd S' T (.tup [y, z])) (upd H' T (.tup [y, z])) := Stp.new e2 hT
            exact ⟨_, sn, .tup (.inl (.inl upd_same)) (.cons (dp_mono sn.ss (dp_mono e1 hud)) (.cons (dp_mono sn.ss (dp_mono e1 hud2)) .nil))⟩
end

section
variable {P : Program} {w : World} {K : PySem.W.Frag} {mg : Str → Option Value} {base : Heap} {C aW aP : Addr} {m : Option Addr} {r : Rho} {ta te : TE}
theorem cl_Root (T : Bl K w mg C aW aP) (d : Dm K C "root" "Closing.root" sClosingRoot ["self", "thing"]) : Mt P w K mg base 1 C "root" (PClosingRoot K C) :=
  pd_mt d scClosingRoot (fun _ => rfl) (fun _ => rfl) fun f cdv A outer s H E a hr hp => ⟨_, dvClosingRoot T hr, by
    obtain ⟨c, x⟩ := a
    obtain ⟨hd, hx⟩ := hp
    have hx : x < c.el.length := hx
    have hd : Down c.el := hd
    refine ds_while (fun n r => ∃ y : Nat, y = n ∧ y < c.el.length ∧ c.rt y = c.rt x ∧ r = [some (.clo c), some (.d (natD y))]) x ⟨x, rfl, hx, rfl, rfl⟩ fun n r ⟨y, e1, hy, e2, e3⟩ => ?_
    subst e3 e1
    have he : EvX K C none (tOp (rIx K) (tFld K (tVar 0) "elder") (tVar 1)) [some (.clo c), some (.d (natD y))] (fun z => z = .d (natD (c.el.getD y y))) :=
      er_op (er_elder T.cl T.nE (er_var rfl rfl)) (er_var rfl rfl) (rx_ixL (atI_natD hy))
    refine ⟨_, et_neN he (er_var rfl rfl), fun e => ?_, fun e => ?_⟩
    · have hne : ¬ c.el.getD y y = y := by simpa using e
      have hle := down_get hd y
      refine ds_set1 he ⟨c.el.getD y y, by omega, c.el.getD y y, rfl, by omega, ?_, rfl⟩
      rw [← e2]
      exact rtE_step hd y
    · have heq : c.el.getD y y = y := by simpa using e
      refine ds_ret (er_var rfl rfl) fun s e => ?_
      rw [e]
      show Sh.d (natD y) = Sh.d (natD (c.rt x))
      rw [← e2]
      exact congrArg (fun n => Sh.d (natD n)) (rtE_top heq).symm⟩
theorem er_root {c : Clo} {x : Nat} (hd : Down c.el) (hx : x < c.el.length) (ho : EvX K C m ta r (fun z => z = .clo c)) (h : EvX K C m te r (fun z => z = .d (natD x))) : EvX K C m (tMeth C "root" (PClosingRoot K C) [] L2.E0 ta (tCons te tNil)) r (fun z => z = .d (natD (c.rt x))) :=
  er_meth (ss := [.d (natD x)]) (c, x) ho (ea_cons h ea_nil) rfl ⟨hd, hx⟩ fun s e => e
theorem cl_Told (T : Bl K w mg C aW aP) (d : Dm K C "told" "Closing.told" sClosingTold ["self", "places", "one", "other"]) : Mt P w K mg base 1 C "told" (PClosingTold K C) :=
  pd_mt d scClosingTold (fun _ => rfl) (fun _ => rfl) fun f cdv A outer s H E a hr hp => ⟨_, dvClosingTold T hr, by
    obtain ⟨c, v, x, y⟩ := a
    refine ds_for (it_list (er_rows T.cl T.nR (er_var rfl rfl))) (fun i r => (∃ z, r = [some (.clo c), some (.d (placesD v)), some (.d (natD x)), some (.d (natD y)), z]) ∧ tell (c.rows.drop i) v x y = tell c.rows v x y) ⟨⟨none, rfl⟩, rfl⟩ (fun i d r' hd ⟨⟨z, hz⟩, ht⟩ => ?_) fun r' ⟨⟨z, hz⟩, ht⟩ => ?_
    · subst hz
      rw [List.getElem?_map] at hd
      cases hg : c.rows[i]? with
      | none =>
        rw [hg] at hd
        cases hd
      | some e =>
        rw [hg] at hd
        cases hd
        have hi := (List.getElem?_eq_some_iff.mp hg).1
        have hdr : c.rows.drop i = e :: c.rows.drop (i + 1) := by
          rw [List.drop_eq_getElem_cons hi]
          rw [(List.getElem?_eq_some_iff.mp hg).2]
        rw [hdr] at ht
        refine ⟨_, _, gt_nameD, ds_if1 (et_and (et_eqN (er_pl0 (v := v) (e := e) (er_var rfl rfl) (er_var rfl rfl)) (er_var rfl rfl)) fun _ => et_eqN (er_pl1 (v := v) (e := e) (er_var rfl rfl) (er_var rfl rfl)) (er_var rfl rfl)) (fun hb => ?_) fun hb => ?_⟩
        · rw [Bool.and_eq_true, decide_eq_true_eq, decide_eq_true_eq] at hb
          have ht' : tell c.rows v x y = some (pl v e).2.2 := by
            rw [← ht]
            unfold tell
            exact if_pos hb
          refine ds_ret (er_pl2 (v := v) (e := e) (er_var rfl rfl) (er_var rfl rfl)) fun s es => ?_
          rw [es]
          show Sh.d (natD (pl v e).2.2) = Sh.d (optN (tell c.rows v x y))
          rw [ht'] <;> rfl
        · refine ds_next ⟨⟨_, rfl⟩, ?_⟩
          rw [← ht]
          show tell _ v x y = if (pl v e).1 = x ∧ (pl v e).2.1 = y then _ else _
          rw [if_neg fun q => by rw [decide_eq_true q.1, decide_eq_true q.2] at hb; cases hb]
    · refine ds_ret er_non fun s e => ?_
      rw [e]
      show Sh.d .none = Sh.d (optN (tell c.rows v x y))
      rw [List.length_map, List.drop_length] at ht
      rw [← ht] <;> rfl⟩
theorem cl_AreOne (T : Bl K w mg C aW aP) (cR : Mt P w K mg base 1 C "root" (PClosingRoot K C)) (d : Df K mg "are_one" sAreOne ["closing", "pair"]) : Cl P w K mg base 2 "are_one" (PAreOne K C) :=
  pd_cl d scAreOne (fun _ => rfl) (fun _ => rfl) fun f cdv A outer s H E a hr hp => ⟨_, dvAreOne T cR (by omega) hr, by
    obtain ⟨c, x, y⟩ := a
    obtain ⟨hd, hx, hy⟩ := hp
    exact ds_ret (er_eqN (er_root hd hx (er_var rfl rfl) (er_op (er_var rfl rfl) (er_int 0) (rx_ixT (ds := [natD x, natD y]) rfl))) (er_root hd hy (er_var rfl rfl) (er_op (er_var rfl rfl) (er_int 1) (rx_ixT (ds := [natD x, natD y]) rfl)))) fun s e => e⟩
theorem fc_2 {fc : Fc} : atI ([natD fc.n, .tuple (fc.es.map rowD), .tuple (fc.un.map duoD)] : List PyData) 2 = some (.tuple (fc.un.map duoD)) := rfl
theorem cl_TornBy (T : Bl K w mg C aW aP) (cA : Cl P w K mg base 2 "are_one" (PAreOne K C)) (d : Df K mg "torn_by" sTornBy ["facts", "closing"]) : Cl P w K mg base 3 "torn_by" (PTornBy K C) :=
  pd_cl d scTornBy (fun _ => rfl) (fun _ => rfl) fun f cdv A outer s H E a hr hp => ⟨_, dvTornBy T cA (by omega) hr, by
    obtain ⟨fc, c⟩ := a
    obtain ⟨h1, h2, h3⟩ := hp
    refine ds_for (it_enumT (er_op (er_var rfl rfl) (er_int 2) (rx_ixT fc_2))) (fun i r => ∃ y z, r = [some (.d fc.d), some (.clo c), y, z]) ⟨none, none, rfl⟩ (fun i d r' hd ⟨y, z, hz⟩ => ?_) fun r' ⟨y, z, hz⟩ => ?_
    · subst hz
      have hi : i < fc.un.length := by
        have := (List.getElem?_eq_some_iff.mp hd).1
        unfold enumD at this
        rw [List.length_map, List.length_range, List.length_map] at this
        exact this
      have ed : d = .tuple [natD i, duoD fc.un[i]] := by
        unfold enumD at hd
        rw [List.getElem?_map, List.getElem?_range (by rw [List.length_map]; exact hi)] at hd
        cases hd
        show PyData.tuple [natD i, (fc.un.map duoD).getD i .none] = _
        rw [List.getD_eq_getElem?_getD, List.getElem?_map, List.getElem?_eq_getElem hi] <;> rfl
      subst ed
      have hm : fc.un[i] ∈ fc.un := List.getElem_mem hi
      have hl := h1.un _ hm
      have hn := h3 _ h2.root _ hm
      refine ⟨_, _, gt_tup (xs := [natD i, duoD fc.un[i]]) (gts_cons (x := .d (natD i)) (xs := [.d (duoD fc.un[i])]) gt_nameD (gts_cons (x := .d (duoD fc.un[i])) (xs := []) gt_nameD gts_nil)), ?_⟩
      refine ds_if1 (et_B (er_call1 (P := fun z => z = .d (.bool false)) (c, fc.un[i]) (ea_cons (er_var rfl rfl) (ea_cons (er_var rfl rfl) ea_nil)) ⟨h2.down, by rw [h2.len]; exact hl.1, by rw [h2.len]; exact hl.2⟩ fun s e => ?_)) (fun e => nomatch e) fun _ => ds_next ⟨_, _, rfl⟩
      rw [e]
      show Sh.d (.bool (decide (c.rt fc.un[i].1 = c.rt fc.un[i].2))) = _
      rw [decide_eq_false hn]
    · exact ds_ret er_non fun s e => e⟩
theorem cl_Clash (T : Bl K w mg C aW aP) {j : Nat} (cT : Cl P w K mg base 3 "torn_by" (PTornBy K C)) (cC : Cl P w K mg base j "closing_of" (PClosingOf K C)) (hj : 3 ≤ j) (d : Df K mg "clash" sClash ["facts"]) : Cl P w K mg base (j + 1) "clash" (PClash K C) :=
  pd_cl d scClash (fun _ => rfl) (fun _ => rfl) fun f cdv A outer s H E a hr hp => ⟨_, dvClash T cC (by omega) cT (by omega) hr, by
    refine ds_ifr (b := true) (et_val (er_op (er_call (P := fun z => z = .d .none) (PA := fun ss => ∃ c, ss = [.d a.d, .clo c] ∧ IsClo a c) (ea_consX (P1 := fun z => z = .d a.d) (P2 := fun _ ss => ∃ c, ss = [.clo c] ∧ IsClo a c) (er_var rfl rfl) (fun s e => by rw [e] <;> rfl) (fun s _ => ea_consX (P1 := fun z => ∃ c, z = .clo c ∧ IsClo a c) (P2 := fun _ ss => ss = []) (er_call1 a (ea_cons (er_var rfl rfl) ea_nil) hp.1 fun s e => e) (fun s ⟨c, e, _⟩ => by rw [e] <;> rfl) (fun s _ => ea_nil) fun s ss ⟨c, e, q⟩ e2 => ⟨c, by rw [e, e2], q⟩) fun s ss e ⟨c, e2, q⟩ => ⟨c, by rw [e, e2], q⟩) fun ss ⟨c, e, q⟩ => ⟨(a, c), e, ⟨hp.1, q, hp.2⟩, .inl rfl, fun s e => e⟩) er_non rx_isN)) (fun _ => ds_ret er_non fun s e => e) fun e => nomatch e⟩
theorem cl_Closed (T : Bl K w mg C aW aP) {j : Nat} (cA : Cl P w K mg base (j + 1) "clash" (PClash K C)) (cC : Cl P w K mg base j "closing_of" (PClosingOf K C)) (d : Df K mg "closed" sClosed ["facts"]) : Cl P w K mg base (j + 2) "closed" (PClosed K C) :=
  pd_cl d scClosed (fun _ => rfl) (fun _ => rfl) fun f cdv A outer s H E a hr hp => ⟨_, dvClosed T cC (by omega) cA (by omega) hr, by
    refine ds_set (er_call1 (P := fun z => z = .d .none) a (ea_cons (er_var rfl rfl) ea_nil) hp fun s e => e) ?_
    refine ds_ifr (b := false) (et_val (er_op (er_var rfl rfl) er_non rx_notN)) (fun e => nomatch e) fun _ => ?_
    exact ds_ret (P := fun s => ∃ c, s = .clo c ∧ IsClo a c) (er_call1 a (ea_cons (er_var rfl rfl) ea_nil) hp.1 fun s e => e) fun s e => e⟩
end
end RD

end
section
set_option linter.all false
set_option maxRecDepth 100000
set_option maxHeartbeats 4000000
/-! E4: steps and roads. -/
namespace RD
open PySem PySem.Spec PyProof.Rows L2

section
variable {P : Program} {w : World} {K : PySem.W.Frag} {mg : Str → Option Value} {base : Heap} {C aW aP : Addr} {m : Option Addr} {r : Rho} {ta te : TE}
theorem cl_EntryTold (T : Bl K w mg C aW aP) (cN : Cl P w K mg base 1 "is_name" (PIsName K C)) (cR : Mt P w K mg base 1 C "root" (PClosingRoot K C)) (cT : Mt P w K mg base 1 C "told" (PClosingTold K C)) (d : Df K mg "entry_told" sEntryTold ["closing", "formula"]) : Cl P w K mg base 2 "entry_told" (PEntryTold K C) :=
  pd_cl d scEntryTold (fun _ => rfl) (fun _ => rfl) fun f cdv A outer s H E a hr hp => ⟨_, dvEntryTold T cN (by omega) cR (by omega) cT (by omega) hr, by
    obtain ⟨c, v, x, y⟩ := a
    obtain ⟨hd, hl⟩ := hp
    have hd : Down c.el := hd
    obtain ⟨l1, l2⟩ := flt hl
    refine ds_asg (er_var rfl rfl) (gt_op (wd := v) (a := x) (b := y)) ?_
    refine ds_ifr (et_or (et_not (et_B (er_isName (f := x) (er_var rfl rfl)))) fun _ => et_not (et_B (er_isName (f := y) (er_var rfl rfl)))) (fun e => ?_) fun e => ?_
    · refine ds_ret er_non fun s es => ?_
      rw [es]
      cases x with
      | op _ _ _ => rfl
      | nm i =>
        cases y with
        | op _ _ _ => rfl
        | nm j => cases e
    · cases x with
      | op _ _ _ => cases e
      | nm i =>
        cases y with
        | op _ _ _ => cases e
        | nm j =>
          have hi : i < c.el.length := of_decide_eq_true l1
          have hj : j < c.el.length := of_decide_eq_true l2
          exact ds_ret (P := fun z => z = .d (optN (tell c.rows v (c.rt i) (c.rt j)))) (er_meth (c, v, c.rt i, c.rt j) (er_var rfl rfl) (ea_cons (er_places T (er_var rfl rfl)) (ea_cons (er_root hd hi (er_var rfl rfl) (er_var rfl rfl)) (ea_cons (er_root hd hj (er_var rfl rfl) (er_var rfl rfl)) ea_nil))) rfl trivial fun s e => e) fun s e => e⟩
theorem isNone_optN (o : Option Nat) : isNoneD (optN o) = o.isNone := by cases o <;> rfl
theorem cl_Shorter (T : Bl K w mg C aW aP) (cN : Cl P w K mg base 1 "is_name" (PIsName K C)) (cR : Mt P w K mg base 1 C "root" (PClosingRoot K C)) (cE : Cl P w K mg base 2 "entry_told" (PEntryTold K C)) (cU : Cl P w K mg base 3 "rule_told" (PRuleTold K C)) (d : Df K mg "shorter" sShorter ["closing", "formula"]) : Cl P w K mg base 4 "shorter" (PShorter K C) :=
  pd_cl d scShorter (fun _ => rfl) (fun _ => rfl) fun f cdv A outer s H E a hr hp => ⟨_, dvShorter T cN (by omega) cR (by omega) cE (by omega) cU (by omega) hr, by
    obtain ⟨c, g⟩ := a
    obtain ⟨⟨hd, hl⟩, hdep⟩ := hp
    have hd : Down c.el := hd
    have hdep : g.dep ≤ 40 := hdep
    cases g with
    | nm x =>
      have hx : x < c.el.length := of_decide_eq_true hl
      have hrt := er_root (K := K) (C := C) (m := none) (r := [some (.clo c), some (.d (natD x)), none]) (ta := tVar 0) (te := tVar 1) hd hx (er_var rfl rfl) (er_var rfl rfl)
      refine ds_ifr (b := true) (et_B (er_isName (f := .nm x) (er_var rfl rfl))) (fun _ => ?_) fun e => nomatch e
      refine ds_ret (P := fun z => z = .d (optD (shorter c.kn (.nm x)))) (er_if (et_eqN hrt (er_var rfl rfl)) (fun e => ?_) fun e => ?_) fun s e => e
      · have e : c.rt x = x := of_decide_eq_true e
        have : shorter c.kn (.nm x) = none := if_pos e
        rw [this]
        exact er_non
      · have e : ¬ c.rt x = x := of_decide_eq_false e
        have : shorter c.kn (.nm x) = some (.nm (c.rt x)) := if_neg e
        rw [this]
        exact hrt
    | op v x y =>
      refine ds_ifr (b := false) (et_B (er_isName (f := .op v x y) (er_var rfl rfl))) (fun e => nomatch e) fun _ => ?_
      have hdep : 1 + max x.dep y.dep ≤ 40 := hdep
      refine ds_set (er_call1 (P := fun z => z = .d (optN (entryTold c.kn v x y))) (c, v, x, y) (ea_cons (er_var rfl rfl) (ea_cons (er_var rfl rfl) ea_nil)) ⟨hd, hl⟩ fun s e => e) ?_
      refine ds_ret (P := fun z => z = .d (optD (shorter c.kn (.op v x y)))) (er_if (et_is (et_val (er_op (er_var rfl rfl) er_non rx_isN)) (isNone_optN _)) (fun e => ?_) fun e => ?_) fun s e => e
      · refine er_call1 (v, x, y) (ea_cons (er_var rfl rfl) ea_nil) (show x.dep ≤ 40 ∧ y.dep ≤ 40 by omega) fun s es => ?_
        rw [es]
        cases q : entryTold c.kn v x y with
        | some n =>
          rw [q] at e
          cases e
        | none =>
          show Sh.d (optD (ruleTold v x y)) = _
          simp only [shorter, q]
      · cases q : entryTold c.kn v x y with
        | none =>
          rw [q] at e
          cases e
        | some n =>
          have : shorter c.kn (.op v x y) = some (.nm n) := by simp only [shorter, q]
          rw [this]
          exact er_var rfl rfl⟩
theorem fs_dep {n : Nat} {k : Kn} : ∀ {f g : F}, firstStep k f = some g → g.dep ≤ f.dep
  | .nm x, g, h => by
    obtain ⟨h1, rfl⟩ := fs_nm_some h
    exact Nat.le_refl _
  | .op w a b, g, h => by
    rcases fs_op h with ⟨a', e, rfl⟩ | ⟨_, b', e, rfl⟩ | ⟨_, _, ⟨c, e, rfl⟩ | ⟨_, e⟩⟩
    · have := fs_dep (n := n) e
      simp only [F.dep]
      omega
    · have := fs_dep (n := n) e
      simp only [F.dep]
      omega
    · simp only [F.dep]
      omega
    · obtain ⟨v, x, y, h1, h2⟩ := ruleTold_part e
      rcases h1 with rfl | rfl <;> rcases h2 with rfl | rfl <;> simp only [F.dep] <;> omega
theorem er_opF {v : Wd} {x y : F} {t1 t2 t3 : TE} (h1 : EvX K C m t1 r (fun z => z = .d (.str v.s))) (h2 : EvX K C m t2 r (fun z => z = .d x.d)) (h3 : EvX K C m t3 r (fun z => z = .d y.d)) : EvX K C m (tTup (tCons t1 (tCons t2 (tCons t3 tNil)))) r (fun z => z = .d (F.op v x y).d) :=
  er_tup (xs := [.str v.s, x.d, y.d]) (ea_cons h1 (ea_cons h2 (ea_cons h3 ea_nil))) (show 3 ≤ 100000 by decide)
theorem cl_FirstStep (T : Bl K w mg C aW aP) (cN : Cl P w K mg base 1 "is_name" (PIsName K C)) (cS : Cl P w K mg base 4 "shorter" (PShorter K C)) (d : Df K mg "first_step" sFirstStep ["closing", "formula"]) : ∀ n, Cl P w K mg base (5 + n) "first_step" (PFirstStep K C n)
  | 0 => pd_cl (k := 4) d scFirstStep (fun _ => rfl) (fun _ => rfl) fun f cdv A outer s H E a hr hp => absurd hp.2.2 (Nat.not_lt_zero _)
  | n + 1 => pd_cl (k := 5 + n) d scFirstStep (fun _ => rfl) (fun _ => rfl) fun f cdv A outer s H E a hr hp => ⟨_, dvFirstStep T cN (by omega) cS (by omega) (cl_FirstStep T cN cS d n) (by omega) hr, by
    obtain ⟨c, g⟩ := a
    obtain ⟨⟨hd, hl⟩, h40, hn⟩ := hp
    have hd : Down c.el := hd
    have h40 : g.dep ≤ 40 := h40
    cases g with
    | nm x =>
      refine ds_if (b := !true) (et_not (et_B (er_isName (f := .nm x) (er_var rfl rfl)))) (fun e => nomatch e) fun _ => ds_skip ?_
      exact ds_ret (P := fun z => z = .d (optD (shorter c.kn (.nm x)))) (er_call1 (c, .nm x) (ea_cons (er_var rfl rfl) (ea_cons (er_var rfl rfl) ea_nil)) ⟨⟨hd, hl⟩, h40⟩ fun s e => e) fun s e => e
    | op v x y =>
      obtain ⟨l1, l2⟩ := flt hl
      obtain ⟨d1, d2⟩ := fdep hn
      have h40' : 1 + max x.dep y.dep ≤ 40 := h40
      refine ds_if (b := !false) (et_not (et_B (er_isName (f := .op v x y) (er_var rfl rfl)))) (fun _ => ?_) fun e => nomatch e
      refine ds_seq (fun r => r.length = 6 ∧ r[0]? = some (some (.clo c)) ∧ r[1]? = some (some (.d (F.op v x y).d)) ∧ firstStep c.kn x = none ∧ firstStep c.kn y = none) ?_ fun r' ⟨_, h0, h1, n1, n2⟩ => ?_
      · refine ds_asg (er_var rfl rfl) (gt_op (wd := v) (a := x) (b := y)) ?_
        refine ds_set (er_call1 (P := fun z => z = .d (optD (firstStep c.kn x))) (c, x) (ea_cons (er_var rfl rfl) (ea_cons (er_var rfl rfl) ea_nil)) ⟨⟨hd, l1⟩, show x.dep ≤ 40 by omega, d1⟩ fun s e => e) ?_
        refine ds_ifr (et_is (et_val (er_op (er_var rfl rfl) er_non rx_notN)) (by rw [isNone_opt])) (fun e => ?_) fun e => ?_
        · cases q : firstStep c.kn x with
          | none =>
            rw [q] at e
            cases e
          | some x' =>
            exact ds_ret (er_opF (v := v) (x := x') (y := y) (er_var rfl rfl) (er_var rfl rfl) (er_var rfl rfl)) fun s e => by
              rw [e]
              show Sh.d (F.op v x' y).d = Sh.d (optD (firstStep c.kn (.op v x y)))
              rw [fs_a q] <;> rfl
        · cases q : firstStep c.kn x with
          | some x' =>
            rw [q] at e
            cases e
          | none =>
            refine ds_set (er_call1 (P := fun z => z = .d (optD (firstStep c.kn y))) (c, y) (ea_cons (er_var rfl rfl) (ea_cons (er_var rfl rfl) ea_nil)) ⟨⟨hd, l2⟩, show y.dep ≤ 40 by omega, d2⟩ fun s e => e) ?_
            refine ds_if1 (et_is (et_val (er_op (er_var rfl rfl) er_non rx_notN)) (by rw [isNone_opt])) (fun e => ?_) fun e => ?_
            · cases q2 : firstStep c.kn y with
              | none =>
                rw [q2] at e
                cases e
              | some y' =>
                exact ds_ret (er_opF (v := v) (x := x) (y := y') (er_var rfl rfl) (er_var rfl rfl) (er_var rfl rfl)) fun s e => by
                  rw [e]
                  show Sh.d (F.op v x y').d = Sh.d (optD (firstStep c.kn (.op v x y)))
                  rw [fs_b q q2] <;> rfl
            · cases q2 : firstStep c.kn y with
              | some y' =>
                rw [q2] at e
                cases e
              | none => exact ds_next ⟨rfl, rfl, rfl, rfl, rfl⟩
      · refine ds_ret (P := fun z => z = .d (optD (shorter c.kn (.op v x y)))) (er_call1 (c, .op v x y) (ea_cons (er_var h0 rfl) (ea_cons (er_var h1 rfl) ea_nil)) ⟨⟨hd, hl⟩, h40⟩ fun s e => e) fun s e => ?_
        rw [e]
        show _ = Sh.d (optD (firstStep c.kn (.op v x y)))
        rw [fs_c n1 n2]⟩
theorem clo_fit {fc : Fc} {c : Clo} (h : IsClo fc c) {f : F} (hf : f.lt fc.n = true) : c.fit f := ⟨h.down, by rw [h.len]; exact hf⟩
theorem sz_dep {f : F} (h : f.sz ≤ 15) : f.dep < 8 := by
  have := F.dep_sz f
  omega
theorem stepsN_some {k : Kn} {j : Nat} {f g : F} (h : firstStep k f = some g) : stepsN k (j + 1) f = f :: stepsN k j g := by simp only [stepsN, h]
theorem stepsN_none {k : Kn} {j : Nat} {f : F} (h : firstStep k f = none) : stepsN k j f = [f] := by
  cases j with
  | zero => rfl
  | succ j => simp only [stepsN, h]
theorem cl_Steps (T : Bl K w mg C aW aP) (cF : Cl P w K mg base 13 "first_step" (PFirstStep K C 8)) (d : Df K mg "steps" sSteps ["closing", "formula"]) : Cl P w K mg base 14 "steps" (PSteps K C) :=
  pd_cl d scSteps (fun _ => rfl) (fun _ => rfl) fun f cdv A outer s H E a hr hp => ⟨_, dvSteps T cF (by omega) hr, by
    obtain ⟨fc, c, g⟩ := a
    obtain ⟨ho, hc, hg⟩ := hp
    have ho : FcOk fc := ho
    have hc : IsClo fc c := hc
    have hg : FOk fc.n g := hg
    have hk : KnOk fc.n c.kn := kn_ok hc.kn ho.es
    have call : ∀ (r : Rho) (i : Nat) (g : F), FOk fc.n g → r[0]? = some (some (.clo c)) → r[i]? = some (some (.d g.d)) → EvX K C none (tCall (PFirstStep K C 8) [] L2.E0 (tCons (tVar 0) (tCons (tVar i) tNil))) r (fun z => z = .d (optD (firstStep c.kn g))) := fun r i g hg h0 h1 =>
      er_call1 (c, g) (ea_cons (er_var h0 rfl) (ea_cons (er_var h1 rfl) ea_nil)) ⟨clo_fit hc hg.1, show g.dep ≤ 40 by have := sz_dep hg.2; omega, sz_dep hg.2⟩ fun s e => e
    refine ds_setOwn (eo_lst1 (xs := [g.d]) (ea_cons (er_var rfl rfl) ea_nil) (show 1 ≤ 100000 by decide)) fun l xs e => ?_
    subst e
    refine ds_set (call _ 1 g hg rfl rfl) ?_
    refine ds_while (fun j r => ∃ (pre : List F) (h : F), FOk fc.n h ∧ pre.length + j ≤ 15 ∧ mu c.kn h ≤ j ∧ steps c.kn g = pre ++ stepsN c.kn j h ∧ r = [some (.clo c), some (.d g.d), some (.own l ((pre ++ [h]).map F.d)), some (.d (optD (firstStep c.kn h)))]) g.sz ⟨[], g, hg, by have := hg.2; simpa using this, mu_sz _ g, rfl, rfl⟩ fun j r ⟨pre, h, hh, hl, hm, hs, hz⟩ => ?_
    subst hz
    refine ⟨_, et_is (et_val (er_op (er_var rfl rfl) er_non rx_notN)) (by rw [isNone_opt]), fun e => ?_, fun e => ?_⟩
    · cases q : firstStep c.kn h with
      | none =>
        rw [q] at e
        cases e
      | some h' =>
        have hmu := fs_mu hk q
        obtain ⟨j', rfl⟩ : ∃ j', j = j' + 1 := ⟨j - 1, by omega⟩
        have hh' : FOk fc.n h' := ⟨fs_lt hk q hh.1, Nat.le_trans (fs_sz q) hh.2⟩
        refine ds_seq (fun r => r = [some (.clo c), some (.d g.d), some (.own l ((pre ++ [h] ++ [h']).map F.d)), some (.d h'.d)]) (ds_app (y := h'.d) rfl (er_var rfl rfl) (by rw [List.length_map, List.length_append]; show _ + 1 < _; omega) ?_) fun r' er => ?_
        · show _ = _
          rw [List.map_append (l₁ := pre ++ [h])] <;> rfl
        · subst er
          refine ds_set1 (call _ 3 h' hh' rfl rfl) ⟨j', Nat.lt_succ_self _, pre ++ [h], h', hh', by rw [List.length_append]; show pre.length + 1 + j' ≤ 15; omega, by omega, ?_, rfl⟩
          rw [hs, stepsN_some q, List.append_assoc] <;> rfl
    · cases q : firstStep c.kn h with
      | some h' =>
        rw [q] at e
        cases e
      | none =>
        refine ds_retOwn rfl ?_
        show Sh.tl ((pre ++ [h]).map F.d) = Sh.tl ((steps c.kn g).map F.d)
        rw [hs, stepsN_none q]⟩
theorem er_stepsL {fc : Fc} {c : Clo} {g : F} (ho : FcOk fc) (hc : IsClo fc c) (hg : FOk fc.n g) (h0 : EvX K C m ta r (fun z => z = .clo c)) (h1 : EvX K C m te r (fun z => z = .d g.d)) : EvX K C m (tCall (PSteps K C) [] L2.E0 (tCons ta (tCons te tNil))) r (fun z => z = .tl ((steps c.kn g).map F.d)) :=
  er_call1 (fc, c, g) (ea_cons h0 (ea_cons h1 ea_nil)) ⟨ho, hc, hg⟩ fun s e => e
theorem at_last {xs : List PyData} {y : PyData} (h : xs.getLast? = some y) : atI xs (-1) = some y := by
  have hne : xs ≠ [] := fun e => by rw [e] at h; cases h
  have hl : 0 < xs.length := List.length_pos_iff.mpr hne
  unfold atI ixN
  rw [if_neg (by decide), if_pos (by omega)]
  rw [List.getLast?_eq_getElem?] at h
  have e : ((xs.length : Int) + -1).toNat = xs.length - 1 := by omega
  show xs[((xs.length : Int) + -1).toNat]? = some y
  rw [e]
  exact h
theorem steps_last {n : Nat} {k : Kn} (hk : KnOk n k) (g : F) : ((steps k g).map F.d).getLast? = some (lastF k g).d := by
  obtain ⟨z, hz⟩ := steps_run hk g.sz g (mu_sz k g)
  have e : lastF k g = z := by
    unfold lastF steps
    rw [List.getLastD_eq_getLast?, run_last hz] <;> rfl
  rw [List.getLast?_map]
  show (stepsN k g.sz g).getLast?.map F.d = _
  rw [run_last hz, e] <;> rfl
theorem er_lastF {n : Nat} {k : Kn} {g : F} (hk : KnOk n k) (h : EvX K C m te r (fun z => z = .tl ((steps k g).map F.d))) : EvX K C m (tOp (rIx K) te (tUn (rU fun i => .int (-i)) (tC (.int 1)))) r (fun z => z = .d (lastF k g).d) :=
  er_op (er_tl h) (er_neg (er_int 1)) (rx_ixL (at_last (steps_last hk g)))
theorem lastF_dep {n : Nat} {k : Kn} (hk : KnOk n k) {g : F} (hg : FOk n g) : (lastF k g).dep ≤ 60 := by
  obtain ⟨z, hz⟩ := steps_run hk g.sz g (mu_sz k g)
  have e : lastF k g = z := by
    unfold lastF steps
    rw [List.getLastD_eq_getLast?, run_last hz] <;> rfl
  have := run_ok hk hz hg z (List.mem_of_getLast? (run_last hz))
  have := sz_dep this.2
  rw [e]
  omega
theorem cl_Same (T : Bl K w mg C aW aP) {j : Nat} (cC : Cl P w K mg base j "closed" (PClosed K C)) (cS : Cl P w K mg base 14 "steps" (PSteps K C)) (hj : 14 ≤ j) (d : Df K mg "same" sSame ["facts", "one", "other"]) : Cl P w K mg base (j + 1) "same" (PSame K C) :=
  pd_cl d scSame (fun _ => rfl) (fun _ => rfl) fun f cdv A outer s H E a hr hp => ⟨_, dvSame T cC (by omega) cS (by omega) hr, by
    obtain ⟨fc, g, h⟩ := a
    obtain ⟨ho, hn, hg, hh⟩ := hp
    have ho : FcOk fc := ho
    refine ds_setX (P := fun z => ∃ c, z = .clo c ∧ IsClo fc c) (er_call1 fc (ea_cons (er_var rfl rfl) ea_nil) ⟨ho, hn⟩ fun s e => e) (fun s ⟨c, e, _⟩ => by rw [e]; exact ⟨rfl, fun _ z => nomatch z⟩) fun s ⟨c, e, hc⟩ => ?_
    subst e
    have hk : KnOk fc.n c.kn := kn_ok hc.kn ho.es
    exact ds_ret (er_eqF (er_lastF hk (er_stepsL ho hc hg (er_var rfl rfl) (er_var rfl rfl))) (er_lastF hk (er_stepsL ho hc hh (er_var rfl rfl) (er_var rfl rfl))) (lastF_dep hk hg) (lastF_dep hk hh)) fun s e => ⟨c, hc, e⟩⟩
/-- xs[-2::-1] -/
theorem eo_back2 {ds : List PyData} (h : EvX K C m te r (fun z => z = .d (.list ds))) : EvO K C m (tBackL K te (tPart (tUn (rU fun i => .int (-i)) (tC (.int 2))))) r (fun z => z = ds.dropLast.reverse) := fun S0 H0 σ S H x Q q =>
  h S0 H0 σ S H x _ fun v w S1 H1 e st1 hv => by
    subst e
    refine ep_some (er_neg (er_int 2)) S0 H0 σ S1 H1 (x.step st1) _ fun S2 H2 st2 => ⟨rfl, ?_⟩
    have hv2 := dp_mono st2.ss hv
    have st := st1.trans st2
    cases hv2 with
    | @lst a vs _ hq ha =>
      refine ⟨a, vs, rfl, st2.sh.seq hq, fun p hp => ?_⟩
      refine q p _ _ S2 _ rfl (none_of st hp) (st.trans (Stp.lay st.sh hp)) (none_S st.sh hp) upd_same (dpa_rev ?_)
      rw [List.dropLast_eq_take, List.dropLast_eq_take, dpa_len ha]
      exact dpa_take _ ha
theorem cl_Road (T : Bl K w mg C aW aP) {j : Nat} (cC : Cl P w K mg base j "closed" (PClosed K C)) (cS : Cl P w K mg base 14 "steps" (PSteps K C)) (hj : 14 ≤ j) (d : Df K mg "road" sRoad ["facts", "one", "other"]) : Cl P w K mg base (j + 1) "road" (PRoad K C) :=
  pd_cl d scRoad (fun _ => rfl) (fun _ => rfl) fun f cdv A outer s H E a hr hp => ⟨_, dvRoad T cC (by omega) cS (by omega) hr, by
    obtain ⟨fc, g, h⟩ := a
    obtain ⟨ho, hn, hg, hh⟩ := hp
    have ho : FcOk fc := ho
    have hg : FOk fc.n g := hg
    have hh : FOk fc.n h := hh
    refine ds_setX (P := fun z => ∃ c, z = .clo c ∧ IsClo fc c) (er_call1 fc (ea_cons (er_var rfl rfl) ea_nil) ⟨ho, hn⟩ fun s e => e) (fun s ⟨c, e, _⟩ => by rw [e]; exact ⟨rfl, fun _ z => nomatch z⟩) fun s ⟨c, e, hc⟩ => ?_
    subst e
    have hk : KnOk fc.n c.kn := kn_ok hc.kn ho.es
    refine ds_par2 (s1 := .tl ((steps c.kn g).map F.d)) (s2 := .tl ((steps c.kn h).map F.d)) (ea_cons (er_stepsL ho hc hg (er_var rfl rfl) (er_var rfl rfl)) (ea_cons (er_stepsL ho hc hh (er_var rfl rfl) (er_var rfl rfl)) ea_nil)) rfl rfl (fun _ z => nomatch z) (fun _ z => nomatch z) ?_
    refine ds_ret (P := fun z => z = .d (roadD (roadF c.kn g h))) (er_if (et_val (er_eqF (er_lastF (g := g) hk (er_var rfl rfl)) (er_lastF (g := h) hk (er_var rfl rfl)) (lastF_dep hk hg) (lastF_dep hk hh))) (fun e => ?_) fun e => ?_) fun s e => ⟨c, hc, e⟩
    · have e := of_decide_eq_true e
      have er : roadF c.kn g h = some (steps c.kn g ++ (steps c.kn h).dropLast.reverse) := if_pos e
      obtain ⟨z, hz⟩ := steps_run hk g.sz g (mu_sz c.kn g)
      obtain ⟨z', hz'⟩ := steps_run hk h.sz h (mu_sz c.kn h)
      have l1 : (steps c.kn g).length ≤ mu c.kn g + 1 := run_len hk hz
      have l2 : (steps c.kn h).length ≤ mu c.kn h + 1 := run_len hk hz'
      have m1 := mu_sz c.kn g
      have m2 := mu_sz c.kn h
      have s1 := hg.2
      have s2 := hh.2
      rw [er]
      have key := er_ownD (eo_cat (K := K) (C := C) (m := none) (r := [some (.d fc.d), some (.d g.d), some (.d h.d), some (.clo c), some (.tl ((steps c.kn g).map F.d)), some (.tl ((steps c.kn h).map F.d))]) (ta := tVar 4) (tb := tBackL K (tVar 5) (tPart (tUn (rU fun i => .int (-i)) (tC (.int 2))))) (xs := (steps c.kn g).map F.d) (ys := ((steps c.kn h).map F.d).dropLast.reverse) (er_var rfl rfl) (er_own1 (eo_back2 (er_varL rfl))) (by
        rw [List.length_map, List.length_reverse, List.length_dropLast, List.length_map]
        omega))
      refine (er_cb (ea_cons key ea_nil) rxa_tupL).is ?_
      show Sh.d (.tuple ((steps c.kn g).map F.d ++ ((steps c.kn h).map F.d).dropLast.reverse)) = Sh.d (.tuple ((steps c.kn g ++ (steps c.kn h).dropLast.reverse).map F.d))
      rw [List.map_append, List.map_reverse, List.map_dropLast]
    · have e := of_decide_eq_false e
      have er : roadF c.kn g h = none := if_neg e
      rw [er]
      exact er_non⟩
end
end RD

end
section
set_option linter.all false
set_option maxRecDepth 100000
set_option maxHeartbeats 4000000
/-! E5: moves, steps, roads told apart. -/
namespace RD
open PySem PySem.Spec PyProof.Rows L2

section
variable {P : Program} {w : World} {K : PySem.W.Frag} {mg : Str → Option Value} {base : Heap} {C aW aP : Addr} {m : Option Addr} {r : Rho} {ta tb te : TE}
theorem shaped_non : SeqAt.shaped .none = true := by
  show (true && decide (PyData.depth .none ≤ 64)) = true
  simp only [PyData.depth] <;> rfl
theorem shaped_opt {o : Option F} (h : ∀ f, o = some f → f.dep ≤ 60) : SeqAt.shaped (optD o) = true := by
  cases o with
  | none => exact shaped_non
  | some f => exact shaped_F (h f rfl)
theorem eqv_opt (o : Option F) (f : F) : PyData.eqv (optD o) f.d = decide (o = some f) := by
  cases o with
  | none =>
    rw [decide_eq_false (fun e => nomatch e)]
    cases f <;> simp only [optD, F.d, PyData.eqv]
  | some g =>
    show PyData.eqv g.d f.d = _
    rw [eqv_F]
    simp
theorem eqv_optN (n : Nat) (o : Option Nat) : PyData.eqv (natD n) (optN o) = decide (o = some n) := by
  cases o with
  | none =>
    rw [decide_eq_false (fun e => nomatch e)]
    simp only [optN, natD, PyData.eqv]
  | some k =>
    show PyData.eqv (natD n) (natD k) = _
    rw [eqv_nat]
    simp [eq_comm]
theorem shaped_optN (o : Option Nat) : SeqAt.shaped (optN o) = true := by
  cases o with
  | none => exact shaped_non
  | some f => exact shaped_int _
theorem part_dep {g a b : F} (h : PartOf g a b) : g.dep ≤ a.dep + b.dep := by
  obtain ⟨v, x, y, h1, h2⟩ := h
  rcases h1 with rfl | rfl <;> rcases h2 with rfl | rfl <;> simp only [F.dep] <;> omega
theorem part_dep40 {g a b : F} (h : PartOf g a b) (h1 : a.dep ≤ 40) (h2 : b.dep ≤ 40) : g.dep ≤ 60 := by
  obtain ⟨v, x, y, q1, q2⟩ := h
  rcases q1 with rfl | rfl <;> rcases q2 with rfl | rfl <;> simp only [F.dep] at h1 h2 <;> omega
def side1 (k : Kn) (w : Wd) (a b s : F) : Bool := match entryTold k w a b, s with
  | some n, .nm x => decide (k.rt x = n)
  | _, _ => false
theorem moveSide_op (k : Kn) (w : Wd) (a b s : F) : moveSide k (.op w a b) s = (side1 k w a b s || decide (ruleTold w a b = some s) || decide (rule2 w a b = some s)) := rfl
/-- one side of a move -/
theorem ds_side (T : Bl K w mg C aW aP) {c : Clo} {f g p q : F} {x5 : Option Sh} {O : Out} (hp : c.fit p) (hq : c.fit q) (dp : p.dep ≤ 40) (dq : q.dep ≤ 40) (h1 : moveSide c.kn p q = true → O.rt (.d (.bool true))) (h2 : moveSide c.kn p q = false → ∀ x, O.nx [some (.clo c), some (.d f.d), some (.d g.d), some (.d p.d), some (.d q.d), x]) :
    DS K C m (tIfS (tNot (tB (tCall (PIsName K C) [] L2.E0 (tCons (tVar 3) tNil)))) (tSeq (tAsg (tCall (PEntryTold K C) [] L2.E0 (tCons (tVar 0) (tCons (tVar 3) tNil))) (gName 5))
    (tSeq (tIfS (tAnd (tTest (tOp rNotNo (tVar 5) (tC .non))) (tAnd (tB (tCall (PIsName K C) [] L2.E0 (tCons (tVar 4) tNil))) (tTest (tOp (rEqD K) (tMeth C "root" (PClosingRoot K C) [] L2.E0 (tVar 0) (tCons (tVar 4) tNil)) (tVar 5))))) (tRet (tC (.bl true))) tNext)
    (tIfS (tOr (tTest (tOp (rEqD K) (tCall (PRuleTold K C) [] L2.E0 (tCons (tVar 3) tNil)) (tVar 4))) (tTest (tOp (rEqD K) (tCall (POtherRuleTold K C) [] L2.E0 (tCons (tVar 3) tNil)) (tVar 4)))) (tRet (tC (.bl true))) tNext))) tNext) [some (.clo c), some (.d f.d), some (.d g.d), some (.d p.d), some (.d q.d), x5] O := by
  cases p with
  | nm n => exact ds_if1 (b := !true) (et_not (et_B (er_isName (f := .nm n) (er_var rfl rfl)))) (fun e => nomatch e) fun _ => ds_next (h2 rfl _)
  | op v a b =>
    have dp' : 1 + max a.dep b.dep ≤ 40 := dp
    refine ds_if1 (b := !false) (et_not (et_B (er_isName (f := .op v a b) (er_var rfl rfl)))) (fun _ => ?_) fun e => nomatch e
    refine ds_set (er_call1 (P := fun z => z = .d (optN (entryTold c.kn v a b))) (c, v, a, b) (ea_cons (er_var rfl rfl) (ea_cons (er_var rfl rfl) ea_nil)) hp fun s e => e) ?_
    refine ds_ifr (b := side1 c.kn v a b q) ?_ (fun e => ?_) fun e => ?_
    · unfold side1
      cases hE : entryTold c.kn v a b with
      | none => exact et_is (et_and (a := false) (b := true) (et_is (et_val (er_op (er_var rfl rfl) er_non rx_notN)) rfl) fun e => nomatch e) rfl
      | some n =>
        cases q with
        | op _ y z => exact et_is (et_and (a := true) (b := false && true) (et_is (et_val (er_op (er_var rfl rfl) er_non rx_notN)) rfl) fun _ => et_and (a := false) (b := true) (et_B (er_isName (f := .op _ y z) (er_var rfl rfl))) fun e => nomatch e) rfl
        | nm x =>
          have hx : x < c.el.length := of_decide_eq_true hq.2
          exact et_is (et_and (a := true) (b := true && decide (c.rt x = n)) (et_is (et_val (er_op (er_var rfl rfl) er_non rx_notN)) rfl) fun _ => et_and (a := true) (et_B (er_isName (f := .nm x) (er_var rfl rfl))) fun _ => et_eqN (er_root hq.1 hx (er_var rfl rfl) (er_var rfl rfl)) (er_var rfl rfl)) rfl
    · refine ds_ret (er_bl true) fun s es => ?_
      rw [es]
      refine h1 ?_
      rw [moveSide_op, e] <;> rfl
    · have k1 : ∀ {te : TE} {o : Option F} {x : Option Sh}, (∀ f, o = some f → f.dep ≤ 60) → EvX K C m te [some (.clo c), some (.d f.d), some (.d g.d), some (.d (F.op v a b).d), some (.d q.d), x] (fun z => z = .d (optD o)) → EvT K C m (tTest (tOp (rEqD K) te (tVar 4))) [some (.clo c), some (.d f.d), some (.d g.d), some (.d (F.op v a b).d), some (.d q.d), x] (fun z => z = decide (o = some q)) := fun hd he =>
        et_is (et_val (er_op he (er_var rfl rfl) (rx_eqD (shaped_opt hd) (shaped_F (Nat.le_trans dq (by decide)))))) (eqv_opt _ _)
      refine ds_if1 (et_or (k1 (o := ruleTold v a b) (fun f e => part_dep40 (ruleTold_part e) (by omega) (by omega)) (er_call1 (v, a, b) (ea_cons (er_var rfl rfl) ea_nil) (show a.dep ≤ 40 ∧ b.dep ≤ 40 by omega) fun s e => e)) fun _ => k1 (o := rule2 v a b) (fun f e => part_dep40 (rule2_part e) (by omega) (by omega)) (er_call1 (v, a, b) (ea_cons (er_var rfl rfl) ea_nil) (show a.dep ≤ 40 ∧ b.dep ≤ 40 by omega) fun s e => e)) (fun e2 => ?_) fun e2 => ?_
      · refine ds_ret (er_bl true) fun s es => ?_
        rw [es]
        refine h1 ?_
        rw [moveSide_op, Bool.or_assoc, e2, Bool.or_true]
      · refine ds_next (h2 ?_ _)
        rw [moveSide_op, Bool.or_assoc, e2, e] <;> rfl
theorem isMove_sides {k : Kn} {f g : F} (h : f.isNm = false ∨ g.isNm = false) : isMove k f g = (moveSide k f g || moveSide k g f) := by
  cases f with
  | op _ _ _ => rfl
  | nm x =>
    cases g with
    | op _ _ _ => rfl
    | nm y => rcases h with h | h <;> cases h
theorem cl_IsMove (T : Bl K w mg C aW aP) (cN : Cl P w K mg base 1 "is_name" (PIsName K C)) (cR : Mt P w K mg base 1 C "root" (PClosingRoot K C)) (cE : Cl P w K mg base 2 "entry_told" (PEntryTold K C)) (cU : Cl P w K mg base 3 "rule_told" (PRuleTold K C)) (cV : Cl P w K mg base 3 "other_rule_told" (POtherRuleTold K C)) (d : Df K mg "is_move" sIsMove ["closing", "one", "other"]) : Cl P w K mg base 4 "is_move" (PIsMove K C) :=
  pd_cl d scIsMove (fun _ => rfl) (fun _ => rfl) fun f cdv A outer s H E a hr hp => ⟨_, dvIsMove T cN (by omega) cR (by omega) cE (by omega) cU (by omega) cV (by omega) hr, by
    obtain ⟨c, f, g⟩ := a
    obtain ⟨hf, hg, df, dg⟩ := hp
    have hf : c.fit f := hf
    have hg : c.fit g := hg
    refine ds_ifr (et_and (et_B (er_isName (f := f) (er_var rfl rfl))) fun _ => et_B (er_isName (f := g) (er_var rfl rfl))) (fun e => ?_) fun e => ?_
    · cases f with
      | op _ _ _ => cases e
      | nm x =>
        cases g with
        | op _ _ _ => cases e
        | nm y =>
          have hx : x < c.el.length := of_decide_eq_true hf.2
          have hy : y < c.el.length := of_decide_eq_true hg.2
          refine ds_ret (er_andV (er_neN (a := x) (b := y) (er_var rfl rfl) (er_var rfl rfl)) fun _ => er_eqN (er_root hf.1 hx (er_var rfl rfl) (er_var rfl rfl)) (er_root hf.1 hy (er_var rfl rfl) (er_var rfl rfl))) fun s e => ?_
          rw [e]
          show _ = Sh.d (.bool (decide (x ≠ y) && decide (c.rt x = c.rt y)))
          rw [show decide (x ≠ y) = !decide (x = y) from by simp]
    · have hs : isMove c.kn f g = (moveSide c.kn f g || moveSide c.kn g f) := isMove_sides (by
        cases hfn : f.isNm with
        | false => exact .inl rfl
        | true =>
          rw [hfn] at e
          exact .inr e)
      refine ds_for (ds := [.tuple [f.d, g.d], .tuple [g.d, f.d]]) (it_list (er_lst (ea_cons (er_tup (xs := [f.d, g.d]) (ea_cons (er_var rfl rfl) (ea_cons (er_var rfl rfl) ea_nil)) (show 2 ≤ 100000 by decide)) (ea_cons (er_tup (xs := [g.d, f.d]) (ea_cons (er_var rfl rfl) (ea_cons (er_var rfl rfl) ea_nil)) (show 2 ≤ 100000 by decide)) ea_nil)) (show 2 ≤ 100000 by decide)))
        (fun i r => (∃ x y z, r = [some (.clo c), some (.d f.d), some (.d g.d), x, y, z]) ∧ (1 ≤ i → moveSide c.kn f g = false) ∧ (2 ≤ i → moveSide c.kn g f = false)) ⟨⟨none, none, none, rfl⟩, fun h => absurd h (by decide), fun h => absurd h (by decide)⟩ (fun i d r' hd ⟨⟨x, y, z, hz⟩, i1, i2⟩ => ?_) fun r' ⟨_, i1, i2⟩ => ?_
      · subst hz
        match i, hd with
        | 0, hd =>
          cases hd
          refine ⟨_, _, gt_tup (xs := [f.d, g.d]) (gts_cons (x := .d f.d) (xs := [.d g.d]) gt_nameD (gts_cons (x := .d g.d) (xs := []) gt_nameD gts_nil)), ds_side T hf hg df dg (fun q => ?_) fun q x => ⟨⟨_, _, _, rfl⟩, fun _ => q, fun h => absurd h (by decide)⟩⟩
          show Sh.d (.bool true) = Sh.d (.bool (isMove c.kn f g))
          rw [hs, q] <;> rfl
        | 1, hd =>
          cases hd
          refine ⟨_, _, gt_tup (xs := [g.d, f.d]) (gts_cons (x := .d g.d) (xs := [.d f.d]) gt_nameD (gts_cons (x := .d f.d) (xs := []) gt_nameD gts_nil)), ds_side T hg hf dg df (fun q => ?_) fun q x => ⟨⟨_, _, _, rfl⟩, fun _ => i1 (by decide), fun _ => q⟩⟩
          show Sh.d (.bool true) = Sh.d (.bool (isMove c.kn f g))
          rw [hs, q, Bool.or_true]
        | i + 2, hd => exact absurd hd (by simp)
      · refine ds_ret (er_bl false) fun s e => ?_
        rw [e]
        show Sh.d (.bool false) = Sh.d (.bool (isMove c.kn f g))
        rw [hs, i1 (show 1 ≤ 2 by decide), i2 (show 2 ≤ 2 by decide)] <;> rfl⟩
theorem fit_op {c : Clo} {v : Wd} {a b : F} (h : c.fit (.op v a b)) : c.fit a ∧ c.fit b := ⟨⟨h.1, (flt h.2).1⟩, ⟨h.1, (flt h.2).2⟩⟩
theorem isStep_nm {k : Kn} {f g : F} (h : f.isNm = true ∨ g.isNm = true) : isStep k f g = isMove k f g := by
  cases f with
  | nm x => rfl
  | op _ _ _ =>
    cases g with
    | nm y => rfl
    | op _ _ _ => rcases h with h | h <;> cases h
theorem isStep_mv {k : Kn} {f g : F} (h : isMove k f g = true) : isStep k f g = true := by
  cases f with
  | nm x => exact h
  | op _ _ _ =>
    cases g with
    | nm y => exact h
    | op _ _ _ =>
      simp only [isStep]
      rw [h] <;> rfl
theorem cl_IsStep (T : Bl K w mg C aW aP) (cN : Cl P w K mg base 1 "is_name" (PIsName K C)) (cM : Cl P w K mg base 4 "is_move" (PIsMove K C)) (d : Df K mg "is_step" sIsStep ["closing", "one", "other"]) : ∀ n, Cl P w K mg base (5 + n) "is_step" (PIsStep K C n)
  | 0 => pd_cl (k := 4) d scIsStep (fun _ => rfl) (fun _ => rfl) fun f cdv A outer s H E a hr hp => absurd hp.2.2.2.2 (Nat.not_lt_zero _)
  | n + 1 => pd_cl (k := 5 + n) d scIsStep (fun _ => rfl) (fun _ => rfl) fun f cdv A outer s H E a hr hp => ⟨_, dvIsStep T cN (by omega) cM (by omega) (cl_IsStep T cN cM d n) (by omega) hr, by
    obtain ⟨c, f, g⟩ := a
    obtain ⟨hf, hg, df, dg, hn⟩ := hp
    have hf : c.fit f := hf
    have hg : c.fit g := hg
    have df : f.dep ≤ 40 := df
    have dg : g.dep ≤ 40 := dg
    refine ds_ifr (et_B (er_call1 (P := fun z => z = .d (.bool (isMove c.kn f g))) (c, f, g) (ea_cons (er_var rfl rfl) (ea_cons (er_var rfl rfl) (ea_cons (er_var rfl rfl) ea_nil))) ⟨hf, hg, df, dg⟩ fun s e => e)) (fun e => ?_) fun e => ?_
    · refine ds_ret (er_bl true) fun s es => ?_
      rw [es]
      show _ = Sh.d (.bool (isStep c.kn f g))
      rw [isStep_mv e]
    · have no : f.isNm = true ∨ g.isNm = true → DS K C none (tRet (tC (.bl false))) [some (.clo c), some (.d f.d), some (.d g.d)] { rt := fun s => s = .d (.bool (isStep c.kn f g)) } := fun q => ds_ret (er_bl false) fun s es => by
        rw [es, isStep_nm q, e]
      cases f with
      | nm x => exact ds_ifr (et_is (et_or (a := true) (b := true) (et_B (er_isName (f := .nm x) (er_var rfl rfl))) fun e => nomatch e) (b := true) rfl) (fun _ => no (.inl rfl)) fun e => nomatch e
      | op v a b =>
        cases g with
        | nm y => exact ds_ifr (et_is (et_or (a := false) (b := true || true) (et_B (er_isName (f := .op v a b) (er_var rfl rfl))) fun _ => et_or (a := true) (b := true) (et_B (er_isName (f := .nm y) (er_var rfl rfl))) fun e => nomatch e) (b := true) rfl) (fun _ => no (.inr rfl)) fun e => nomatch e
        | op u x y =>
          obtain ⟨fa, fb⟩ := fit_op hf
          obtain ⟨fx, fy⟩ := fit_op hg
          obtain ⟨na, nb⟩ := fdep hn
          have df' : 1 + max a.dep b.dep ≤ 40 := df
          have dg' : 1 + max x.dep y.dep ≤ 40 := dg
          have hst : isStep c.kn (.op v a b) (.op u x y) = if v ≠ u then false else if a = x then isStep c.kn b y else decide (b = y) && isStep c.kn a x := by
            simp only [isStep]
            rw [e, Bool.false_or]
          have call : ∀ (s0 : Rho) (t1 t2 : TE) (p q : F), s0[0]? = some (some (.clo c)) → c.fit p → c.fit q → p.dep ≤ 40 → q.dep ≤ 40 → p.dep < n → EvX K C none t1 s0 (fun z => z = .d p.d) → EvX K C none t2 s0 (fun z => z = .d q.d) → EvX K C none (tCall (PIsStep K C n) [] L2.E0 (tCons (tVar 0) (tCons t1 (tCons t2 tNil)))) s0 (fun z => z = .d (.bool (isStep c.kn p q))) := fun s0 t1 t2 p q h0 f1 f2 d1 d2 dn e1 e2 =>
            er_call1 (c, p, q) (ea_cons (er_var h0 rfl) (ea_cons e1 (ea_cons e2 ea_nil))) ⟨f1, f2, d1, d2, dn⟩ fun s e => e
          refine ds_ifr (b := !decide (v = u)) (et_is (et_or (a := false) (b := false || !decide (v = u)) (et_B (er_isName (f := .op v a b) (er_var rfl rfl))) fun _ => et_or (a := false) (et_B (er_isName (f := .op u x y) (er_var rfl rfl))) fun _ => et_is (et_val (er_op (er_i0 (wd := v) (a := a) (b := b) (er_var rfl rfl)) (er_i0 (wd := u) (a := x) (b := y) (er_var rfl rfl)) (rx_neD (shaped_wd _) (shaped_wd _)))) (by rw [eqv_wd])) rfl) (fun e2 => ?_) fun e2 => ?_
          · refine ds_ret (er_bl false) fun s es => ?_
            rw [es]
            show _ = Sh.d (.bool (isStep c.kn (.op v a b) (.op u x y)))
            rw [hst, if_pos (by simpa using e2)]
          · have e2 : v = u := by simpa using e2
            subst e2
            rw [if_neg (by simp)] at hst
            refine ds_ifr (et_val (er_eqF (f := a) (g := x) (er_i1 (wd := v) (a := a) (b := b) (er_var rfl rfl)) (er_i1 (wd := v) (a := x) (b := y) (er_var rfl rfl)) (by omega) (by omega))) (fun e3 => ?_) fun e3 => ?_
            · refine ds_ret (call _ _ _ b y rfl fb fy (by omega) (by omega) nb (er_i2 (wd := v) (a := a) (b := b) (er_var rfl rfl)) (er_i2 (wd := v) (a := x) (b := y) (er_var rfl rfl))) fun s es => ?_
              rw [es]
              show _ = Sh.d (.bool (isStep c.kn (.op v a b) (.op v x y)))
              rw [hst, if_pos (of_decide_eq_true e3)]
            · refine ds_ret (er_andV (er_eqF (f := b) (g := y) (er_i2 (wd := v) (a := a) (b := b) (er_var rfl rfl)) (er_i2 (wd := v) (a := x) (b := y) (er_var rfl rfl)) (by omega) (by omega)) fun _ => call _ _ _ a x rfl fa fx (by omega) (by omega) na (er_i1 (wd := v) (a := a) (b := b) (er_var rfl rfl)) (er_i1 (wd := v) (a := x) (b := y) (er_var rfl rfl))) fun s es => ?_
              rw [es]
              show _ = Sh.d (.bool (isStep c.kn (.op v a b) (.op v x y)))
              rw [hst, if_neg (of_decide_eq_false e3)]⟩
theorem cut1 (xs : List PyData) : cutD xs (some 1) none = xs.drop 1 := by
  unfold cutD
  have e1 : HT.sIx xs.length 0 (some 1) = min 1 xs.length := by
    unfold HT.sIx
    simp
    try omega
  have e2 : HT.sIx xs.length xs.length none = xs.length := by
    unfold HT.sIx
    rfl
  rw [e1, e2]
  cases xs with
  | nil => rfl
  | cons x xs =>
    have : min 1 (x :: xs).length = 1 := by rw [List.length_cons]; omega
    rw [this]
    show List.take ((x :: xs).length - 1) xs = xs
    rw [List.length_cons, Nat.add_sub_cancel, List.take_length]
theorem at_head {xs : List PyData} {y : PyData} (h : xs.head? = some y) : atI xs 0 = some y := by
  cases xs with
  | nil => cases h
  | cons x xs =>
    cases h
    exact atI_nat (l := y :: xs) (i := 0) (Nat.zero_lt_succ _)
theorem map_const_false {α : Type} (l : List α) : l.map (fun _ => PyData.bool false) = (l.map fun _ => false).map PyData.bool := by rw [List.map_map] <;> rfl
theorem any_false {α : Type} (l : List α) : (l.map fun _ => false).any id = false := by
  induction l with
  | nil => rfl
  | cons x l ih => exact ih
theorem map_const_true {α : Type} (l : List α) : l.map (fun _ => PyData.bool true) = (l.map fun _ => true).map PyData.bool := by rw [List.map_map] <;> rfl
theorem all_true {α : Type} (l : List α) : (l.map fun _ => true).all id = true := by
  induction l with
  | nil => rfl
  | cons x l ih => exact ih
theorem fc_0 {fc : Fc} : atI ([natD fc.n, .tuple (fc.es.map rowD), .tuple (fc.un.map duoD)] : List PyData) 0 = some (natD fc.n) := rfl
theorem cl_IsRoad (T : Bl K w mg C aW aP) {j : Nat} (cC : Cl P w K mg base j "closed" (PClosed K C)) (cE : Cl P w K mg base 11 "formula_error" (PFormulaError K C)) (cS : Cl P w K mg base 13 "is_step" (PIsStep K C 8)) (hj : 13 ≤ j) (d : Df K mg "is_road" sIsRoad ["facts", "one", "other", "value"]) : Cl P w K mg base (j + 1) "is_road" (PIsRoad K C) :=
  pd_cl d scIsRoad (fun _ => rfl) (fun _ => rfl) fun f cdv A outer s H E a hr hp => ⟨_, dvIsRoad T cE (by omega) cC (by omega) cS (by omega) hr, by
    obtain ⟨fc, g, h, l⟩ := a
    obtain ⟨ho, hn, hl, hw⟩ := hp
    have ho : FcOk fc := ho
    have hl : RoadOk fc.n g h l := hl
    have mg' : g ∈ l := List.mem_of_mem_head? hl.hd
    have mh' : h ∈ l := List.mem_of_getLast? hl.la
    have dg := sz_dep (hl.ok g mg').2
    have dh := sz_dep (hl.ok h mh').2
    have sg : g.dep ≤ 60 := by omega
    have sh' : h.dep ≤ 60 := by omega
    have l1 := hl.l1
    have l40 := hl.l40
    refine ds_setX (P := fun z => ∃ c, z = .clo c ∧ IsClo fc c) (er_call1 fc (ea_cons (er_var rfl rfl) ea_nil) ⟨ho, hn⟩ fun s e => e) (fun s ⟨c, e, _⟩ => by rw [e]; exact ⟨rfl, fun _ z => nomatch z⟩) fun s ⟨c, e, hc⟩ => ?_
    subst e
    refine ds_ifr (b := false) (et_is (et_or (a := !true) (b := false) (et_not (et_B (er_isi (x := .tuple (l.map F.d)) (er_var rfl rfl) (show kitB "tuple" "tuple" = some true by decide +kernel)))) fun _ => et_is (et_not (et_chain (er_int 1) (er_cb (ea_cons (er_var rfl rfl) ea_nil) (rxa_lenT (ds := l.map F.d))) (er_int 40) rx_le rx_le)) ?_) rfl) (fun e => nomatch e) fun _ => ?_
    · rw [List.length_map, decide_eq_true (show (1 : Int) ≤ (l.length : Int) by omega), decide_eq_true (show (l.length : Int) ≤ 40 by omega)] <;> rfl
    have mem : ∀ (i : Nat) d, (l.map F.d)[i]? = some d → ∃ x, d = F.d x ∧ l[i]? = some x ∧ FOk fc.n x := fun i d hd => by
      rw [List.getElem?_map] at hd
      cases q : l[i]? with
      | none =>
        rw [q] at hd
        cases hd
      | some x =>
        rw [q] at hd
        cases hd
        exact ⟨x, rfl, rfl, hl.ok x (List.mem_of_getElem? q)⟩
    refine ds_ifr (b := false) (et_B (er_cb (ss := [.d (.list ((l.map fun _ => false).map PyData.bool))]) (ea_cons ((er_ownD (eo_lcM (fun _ => .bool false) (it_tup (er_var rfl rfl)) (by rw [List.length_map]; show l.length < _; omega) fun i d hd => ?_)).is (by show Sh.d (.list ((l.map F.d).map fun _ => PyData.bool false)) = _; rw [List.map_map, List.map_map]; rfl)) ea_nil) (fun S H vs hs hv Q q => rxa_any S H vs hs hv Q fun v s S' H' p => q v s S' H' (by rw [p, any_false])))) (fun e => nomatch e) fun _ => ?_
    · obtain ⟨x, rfl, hx, hfx⟩ := mem i d hd
      refine ⟨_, _, gt_nameD, fun _ h => h, ?_⟩
      exact (er_op (er_call1 (P := fun z => z = .d .none) (fc.n, x) (ea_cons (er_op (er_var rfl rfl) (er_int 0) (rx_ixT fc_0)) (ea_cons (er_var rfl rfl) ea_nil)) hfx fun s e => e) er_non rx_notN).is rfl
    refine ds_ifr (b := false) (et_is (et_or (a := false) (b := false) (et_is (et_val (er_op (er_op (er_var rfl rfl) (er_int 0) (rx_ixT (x := g.d) (at_head (by rw [List.head?_map, hl.hd] <;> rfl)))) (er_var rfl rfl) (rx_neD (shaped_F sg) (shaped_F sg)))) (by rw [eqv_F]; simp)) fun _ => et_is (et_val (er_op (er_op (er_var rfl rfl) (er_neg (er_int 1)) (rx_ixT (x := h.d) (at_last (by rw [List.getLast?_map, hl.la] <;> rfl)))) (er_var rfl rfl) (rx_neD (shaped_F sh') (shaped_F sh')))) (by rw [eqv_F]; simp)) rfl) (fun e => nomatch e) fun _ => ?_
    have wk := hw c hc
    refine ds_ret (P := fun z => z = .d (.bool true)) (er_cb (ss := [.d (.list (((pairsD (l.map F.d) (cutD (l.map F.d) (some 1) none)).map fun _ => true).map PyData.bool))]) (ea_cons ((er_ownD (eo_lcM (fun _ => .bool true) (it_zipT (ea_cons (er_var rfl rfl) (ea_cons (er_slT (er_var rfl rfl) (ep_some (er_int 1)) ep_none) ea_nil))) (by rw [pairs_len, List.length_map]; show min l.length _ < _; omega) fun i d hd => ?_)).is (by rw [map_const_true])) ea_nil) (fun S H vs hs hv Q q => rxa_all S H vs hs hv Q fun v s S' H' p => q v s S' H' (by rw [p, all_true]))) fun s e => e
    obtain ⟨dx, dy, hx, hy, rfl⟩ := pairs_get hd
    rw [cut1, List.getElem?_drop] at hy
    obtain ⟨x, rfl, gx, fx⟩ := mem i dx hx
    obtain ⟨y, rfl, gy, fy⟩ := mem (1 + i) dy hy
    refine ⟨_, _, gt_tup (xs := [x.d, y.d]) (gts_cons (x := .d x.d) (xs := [.d y.d]) gt_nameD (gts_cons (x := .d y.d) (xs := []) gt_nameD gts_nil)), fun _ h => h, ?_⟩
    have hxy := wk i x y gx (by rw [Nat.add_comm]; exact gy)
    have d1 := sz_dep fx.2
    have d2 := sz_dep fy.2
    exact er_call1 (c, x, y) (ea_cons (er_var rfl rfl) (ea_cons (er_var rfl rfl) (ea_cons (er_var rfl rfl) ea_nil))) ⟨clo_fit hc fx.1, clo_fit hc fy.1, show x.dep ≤ 40 by omega, show y.dep ≤ 40 by omega, d1⟩ fun s e => by
      rw [e]
      show Sh.d (.bool (isStep c.kn x y)) = _
      rw [hxy]⟩
end
end RD

end
section
set_option linter.all false
set_option maxRecDepth 100000
set_option maxHeartbeats 4000000
/-! M5: joining and settling, as plain functions. -/
namespace RD
open PySem PySem.Spec PyProof.Rows L2
def joinE (el : List Nat) (x y : Nat) : List Nat := el.set (max (rtE el x) (rtE el y)) (min (rtE el x) (rtE el y))
def isTop (el : List Nat) (x : Nat) : Bool := decide (el.getD x x = x)
def cnt (el : List Nat) : Nat := (List.range el.length).countP (isTop el)
def Up (el : List Nat) (t : Nat → Nat) : Prop := ∀ x, t (el.getD x x) = t x
theorem up_rt {el : List Nat} {t : Nat → Nat} (h : Down el) (u : Up el t) (x : Nat) : t (rtE el x) = t x := rtE_ind h t u x
theorem getD_set (el : List Nat) (i v z : Nat) : (el.set i v).getD z z = if i = z ∧ i < el.length then v else el.getD z z := by
  rw [List.getD_eq_getElem?_getD, List.getD_eq_getElem?_getD, List.getElem?_set]
  by_cases e : i = z
  · subst e
    by_cases l : i < el.length
    · rw [if_pos rfl, if_pos l, if_pos ⟨rfl, l⟩] <;> rfl
    · rw [if_pos rfl, if_neg l, if_neg (fun q => l q.2), List.getElem?_eq_none (by omega)]
  · rw [if_neg e, if_neg (fun q => e q.1)]
section
variable {el : List Nat} {x y : Nat}
theorem join_len : (joinE el x y).length = el.length := List.length_set
theorem join_down (h : Down el) : Down (joinE el x y) := fun z v e => by
  unfold joinE at e
  rw [List.getElem?_set] at e
  split at e
  · split at e
    · cases e
      omega
    · cases e
  · exact h z v e
theorem join_same (h : Down el) (e : rtE el x = rtE el y) : joinE el x y = el := by
  unfold joinE
  rw [← e, Nat.max_self, Nat.min_self]
  apply List.ext_getElem?
  intro i
  rw [List.getElem?_set]
  by_cases q : rtE el x = i
  · rw [if_pos q]
    have f := rtE_fix h x
    rw [q] at f ⊢
    rw [List.getD_eq_getElem?_getD] at f
    by_cases l : i < el.length
    · rw [if_pos l, List.getElem?_eq_getElem l]
      rw [List.getElem?_eq_getElem l] at f
      exact congrArg some f.symm
    · rw [if_neg l, List.getElem?_eq_none (by omega)]
  · rw [if_neg q]
theorem join_up (h : Down el) {t : Nat → Nat} (u : Up el t) (e : t x = t y) : Up (joinE el x y) t := fun z => by
  unfold joinE
  rw [getD_set]
  split
  · rename_i q
    have a := up_rt h u x
    have b := up_rt h u y
    rw [← q.1]
    rcases Nat.le_total (rtE el x) (rtE el y) with c | c
    · rw [Nat.min_eq_left c, Nat.max_eq_right c, a, b, e]
    · rw [Nat.min_eq_right c, Nat.max_eq_left c, a, b, e]
  · exact u z
theorem max_top (h : Down el) : el.getD (max (rtE el x) (rtE el y)) (max (rtE el x) (rtE el y)) = max (rtE el x) (rtE el y) := by
  rcases Nat.le_total (rtE el x) (rtE el y) with c | c
  · rw [Nat.max_eq_right c]
    exact rtE_fix h y
  · rw [Nat.max_eq_left c]
    exact rtE_fix h x
theorem join_coarse (h : Down el) (z : Nat) : rtE (joinE el x y) (rtE el z) = rtE (joinE el x y) z := by
  refine rtE_ind h (rtE (joinE el x y)) (fun u => ?_) z
  by_cases q : max (rtE el x) (rtE el y) = u
  · rw [← q, max_top h]
  · have := rtE_step (join_down (x := x) (y := y) h) u
    have e : (joinE el x y).getD u u = el.getD u u := by
      unfold joinE
      rw [getD_set, if_neg (fun z => q z.1)]
    rw [← this, e]
theorem countP_le {α : Type} {p q : α → Bool} : ∀ {l : List α}, (∀ a ∈ l, p a = true → q a = true) → l.countP p ≤ l.countP q
  | [], _ => Nat.le_refl _
  | a :: l, h => by
    have ih := countP_le fun b hb => h b (List.mem_cons_of_mem _ hb)
    rw [List.countP_cons, List.countP_cons]
    cases e : p a with
    | false =>
      rw [if_neg Bool.false_ne_true]
      split <;> omega
    | true =>
      rw [h a List.mem_cons_self e]
      omega
theorem countP_lt {α : Type} {p q : α → Bool} : ∀ {l : List α}, (∀ a ∈ l, p a = true → q a = true) → (∃ a ∈ l, q a = true ∧ p a = false) → l.countP p < l.countP q
  | [], _, ⟨a, h, _⟩ => by cases h
  | a :: l, h, ⟨b, hb, h1, h2⟩ => by
    have h' : ∀ b ∈ l, p b = true → q b = true := fun b hb => h b (List.mem_cons_of_mem _ hb)
    have le := countP_le h'
    rw [List.countP_cons, List.countP_cons]
    rcases List.mem_cons.mp hb with e | e
    · subst e
      rw [h1, h2, if_pos rfl, if_neg Bool.false_ne_true]
      omega
    · have ih := countP_lt h' ⟨b, e, h1, h2⟩
      cases e2 : p a with
      | false =>
        rw [if_neg Bool.false_ne_true]
        split <;> omega
      | true =>
        rw [h a List.mem_cons_self e2]
        omega
theorem join_cnt (h : Down el) (hx : x < el.length) (hy : y < el.length) (ne : rtE el x ≠ rtE el y) : cnt (joinE el x y) < cnt el := by
  have lx := rtE_lt h hx
  have ly := rtE_lt h hy
  unfold cnt
  rw [join_len]
  refine countP_lt (fun z hz e => ?_) ⟨max (rtE el x) (rtE el y), List.mem_range.mpr (by omega), decide_eq_true (max_top h), ?_⟩
  · have e := of_decide_eq_true e
    unfold joinE at e
    rw [getD_set] at e
    refine decide_eq_true ?_
    split at e
    · rename_i q
      have := q.1
      omega
    · exact e
  · refine decide_eq_false fun e => ?_
    unfold joinE at e
    rw [getD_set, if_pos ⟨rfl, by omega⟩] at e
    omega
end

/-! one pass over the rows -/
structure JS (w : Wd) (rows : List Ent) (el : List Nat) (i : Nat) (el' : List Nat) (b : Bool) (g : Nat → Nat → Option Nat) : Prop where
  down : Down el'
  len : el'.length = el.length
  up : ∀ t, Closed rows t → Up el t → Up el' t
  same : b = false → el' = el
  lt : b = true → cnt el' < cnt el
  coarse : ∀ z, rtE el' (rtE el z) = rtE el' z
  kv : ∀ k0 k1 v, g k0 k1 = some v → ∃ r ∈ rows, v = (pl w r).2.2 ∧ ∀ t, Closed rows t → Up el t → t k0 = t (pl w r).1 ∧ t k1 = t (pl w r).2.1
  done : b = false → ∀ j, j < i → ∀ r, rows[j]? = some r → ∃ v, g (rtE el (pl w r).1) (rtE el (pl w r).2.1) = some v ∧ rtE el v = rtE el (pl w r).2.2
section
variable {w : Wd} {rows : List Ent} {el el' : List Nat} {i : Nat} {b : Bool} {g : Nat → Nat → Option Nat} {r : Ent}
theorem js_start (h : Down el) : JS w rows el 0 el false fun _ _ => none :=
  ⟨h, rfl, fun _ _ u => u, fun _ => rfl, fun e => (nomatch e), fun z => rtE_idem h z |>.symm ▸ rtE_idem h z, fun _ _ _ e => (nomatch e), fun _ j hj => absurd hj (Nat.not_lt_zero _)⟩
theorem js_put (h : JS w rows el i el' b g) (hr : rows[i]? = some r) (hn : g (rtE el' (pl w r).1) (rtE el' (pl w r).2.1) = none) :
    JS w rows el (i + 1) el' b fun a c => if a = rtE el' (pl w r).1 ∧ c = rtE el' (pl w r).2.1 then some (pl w r).2.2 else g a c := by
  refine ⟨h.down, h.len, h.up, h.same, h.lt, h.coarse, fun k0 k1 v e => ?_, fun hb j hj r' hr' => ?_⟩
  · split at e
    · rename_i q
      refine ⟨r, List.mem_of_getElem? hr, (Option.some.inj e).symm, fun t ct ut => ?_⟩
      rw [q.1, q.2, up_rt h.down (h.up t ct ut), up_rt h.down (h.up t ct ut)]
      exact ⟨rfl, rfl⟩
    · exact h.kv k0 k1 v e
  · have es := h.same hb
    subst es
    by_cases q : j = i
    · subst q
      rw [hr] at hr'
      cases hr'
      exact ⟨_, if_pos ⟨rfl, rfl⟩, rfl⟩
    · obtain ⟨v, h1, h2⟩ := h.done hb j (by omega) r' hr'
      refine ⟨v, ?_, h2⟩
      rw [if_neg fun z => ?_]
      · exact h1
      · rw [z.1, z.2, hn] at h1
        cases h1
theorem js_join (h : JS w rows el i el' b g) (he : Down el) (hlt : ∀ r ∈ rows, (pl w r).2.2 < el.length) (hr : rows[i]? = some r) {v : Nat} (hv : g (rtE el' (pl w r).1) (rtE el' (pl w r).2.1) = some v) :
    v < el'.length ∧ JS w rows el (i + 1) (joinE el' v (pl w r).2.2) (b || decide (rtE el' v ≠ rtE el' (pl w r).2.2)) g := by
  have hm := List.mem_of_getElem? hr
  obtain ⟨r0, m0, ev, hk⟩ := h.kv _ _ _ hv
  have lv : v < el'.length := by
    rw [h.len, ev]
    exact hlt r0 m0
  have lt' : (pl w r).2.2 < el'.length := by
    rw [h.len]
    exact hlt r hm
  refine ⟨lv, join_down h.down, join_len.trans h.len, fun t ct ut => join_up h.down (h.up t ct ut) ?_, fun hb => ?_, fun hb => ?_, fun z => ?_, h.kv, fun hb j hj r' hr' => ?_⟩
  · obtain ⟨a, c⟩ := hk t ct ut
    rw [up_rt h.down (h.up t ct ut)] at a c
    rw [ev]
    exact ct w r0 m0 r hm a.symm c.symm
  · rw [Bool.or_eq_false_iff] at hb
    have e2 : rtE el' v = rtE el' (pl w r).2.2 := by simpa using hb.2
    rw [join_same h.down e2]
    exact h.same hb.1
  · by_cases e2 : rtE el' v = rtE el' (pl w r).2.2
    · rw [join_same h.down e2]
      refine h.lt ?_
      simpa [e2] using hb
    · have c1 := join_cnt h.down lv lt' e2
      cases b with
      | true =>
        have := h.lt rfl
        omega
      | false =>
        rw [h.same rfl] at c1 ⊢
        exact c1
  · have c1 := join_coarse (x := v) (y := (pl w r).2.2) h.down (rtE el z)
    have c2 := join_coarse (x := v) (y := (pl w r).2.2) h.down z
    rw [← c1, h.coarse, c2]
  · rw [Bool.or_eq_false_iff] at hb
    have es := h.same hb.1
    subst es
    by_cases q : j = i
    · subst q
      rw [hr] at hr'
      cases hr'
      exact ⟨v, hv, by simpa using hb.2⟩
    · exact h.done hb.1 j (by omega) r' hr'
end
structure JR (w : Wd) (rows : List Ent) (el el' : List Nat) (b : Bool) : Prop where
  down : Down el'
  len : el'.length = el.length
  up : ∀ t, Closed rows t → Up el t → Up el' t
  same : b = false → el' = el
  lt : b = true → cnt el' < cnt el
  coarse : ∀ z, rtE el' (rtE el z) = rtE el' z
  cl : b = false → ∀ r ∈ rows, ∀ r' ∈ rows, rtE el (pl w r).1 = rtE el (pl w r').1 → rtE el (pl w r).2.1 = rtE el (pl w r').2.1 → rtE el (pl w r).2.2 = rtE el (pl w r').2.2
theorem js_end {w : Wd} {rows : List Ent} {el el' : List Nat} {b : Bool} {g : Nat → Nat → Option Nat} (h : JS w rows el rows.length el' b g) : JR w rows el el' b := by
  refine ⟨h.down, h.len, h.up, h.same, h.lt, h.coarse, fun hb r hr r' hr' e1 e2 => ?_⟩
  obtain ⟨j, hj⟩ := List.mem_iff_getElem?.mp hr
  obtain ⟨j', hj'⟩ := List.mem_iff_getElem?.mp hr'
  obtain ⟨v, a1, a2⟩ := h.done hb j (List.getElem?_eq_some_iff.mp hj).1 r hj
  obtain ⟨v', b1, b2⟩ := h.done hb j' (List.getElem?_eq_some_iff.mp hj').1 r' hj'
  rw [e1, e2] at a1
  rw [a1] at b1
  cases b1
  rw [← a2, b2]

/-! settling -/
structure SS (n : Nat) (es : List Ent) (el : List Nat) (rows : List Ent) : Prop where
  down : Down el
  len : el.length = n
  up : ∀ t, Closed es t → Up el t
  a : ∀ r ∈ rows, ∃ e ∈ es, ∀ t, Closed es t → img t r = img t e
  b : ∀ e ∈ es, ∃ r ∈ rows, img (rtE el) r = img (rtE el) e
  lt : ∀ r ∈ rows, r.1 < n ∧ r.2.1 < n ∧ r.2.2 < n
  few : rows.length < 64
theorem img_pl {t : Nat → Nat} {r e : Ent} (h : img t r = img t e) (w : Wd) : t (pl w r).1 = t (pl w e).1 ∧ t (pl w r).2.1 = t (pl w e).2.1 ∧ t (pl w r).2.2 = t (pl w e).2.2 := by
  have q : img t (pl w r) = img t (pl w e) := by rw [← pl_img, ← pl_img, h]
  exact ⟨congrArg (·.1) q, congrArg (·.2.1) q, congrArg (·.2.2) q⟩
theorem img_img {s t : Nat → Nat} (h : ∀ z, s (t z) = s z) (r : Ent) : img s (img t r) = img s r := by
  obtain ⟨x, y, z⟩ := r
  show (s (t x), s (t y), s (t z)) = (s x, s y, s z)
  rw [h, h, h]
theorem pl_lt {n : Nat} {r : Ent} (h : r.1 < n ∧ r.2.1 < n ∧ r.2.2 < n) (w : Wd) : (pl w r).1 < n ∧ (pl w r).2.1 < n ∧ (pl w r).2.2 < n := by
  obtain ⟨x, y, z⟩ := r
  obtain ⟨h1, h2, h3⟩ := h
  cases w
  · exact ⟨h1, h2, h3⟩
  · exact ⟨h1, h3, h2⟩
  · exact ⟨h2, h3, h1⟩
section
variable {n : Nat} {es rows rows' : List Ent} {el el' : List Nat}
theorem SS.closed (h : SS n es el rows) {t : Nat → Nat} (ht : Closed es t) : Closed rows t := fun w r hr r' hr' e1 e2 => by
  obtain ⟨e, he, q⟩ := h.a r hr
  obtain ⟨e', he', q'⟩ := h.a r' hr'
  obtain ⟨a1, a2, a3⟩ := img_pl (q t ht) w
  obtain ⟨b1, b2, b3⟩ := img_pl (q' t ht) w
  rw [a3, b3]
  exact ht w e he e' he' (by rw [← a1, ← b1, e1]) (by rw [← a2, ← b2, e2])
theorem SS.join (h : SS n es el rows) {w : Wd} {b : Bool} (j : JR w rows el el' b) : SS n es el' rows := by
  refine ⟨j.down, j.len.trans h.len, fun t ht => j.up t (h.closed ht) (h.up t ht), h.a, fun e he => ?_, h.lt, h.few⟩
  obtain ⟨r, hr, q⟩ := h.b e he
  refine ⟨r, hr, ?_⟩
  rw [← img_img j.coarse r, ← img_img j.coarse e, q]
theorem SS.root (h : SS n es el rows) (hm : ∀ r', r' ∈ rows' ↔ ∃ r ∈ rows, r' = img (rtE el) r) (hf : rows'.length < 64) : SS n es el rows' := by
  refine ⟨h.down, h.len, h.up, fun r' hr' => ?_, fun e he => ?_, fun r' hr' => ?_, hf⟩
  · obtain ⟨r, hr, rfl⟩ := (hm r').mp hr'
    obtain ⟨e, he, q⟩ := h.a r hr
    refine ⟨e, he, fun t ht => ?_⟩
    rw [img_img (fun z => up_rt h.down (h.up t ht) z), q t ht]
  · obtain ⟨r, hr, q⟩ := h.b e he
    refine ⟨img (rtE el) r, (hm _).mpr ⟨r, hr, rfl⟩, ?_⟩
    rw [img_img (fun z => rtE_idem h.down z), q]
  · obtain ⟨r, hr, rfl⟩ := (hm r').mp hr'
    obtain ⟨h1, h2, h3⟩ := h.lt r hr
    exact ⟨rtE_lt h.down h1, rtE_lt h.down h2, rtE_lt h.down h3⟩
theorem SS.fin (h : SS n es el rows) (hc : Closed rows (rtE el)) (hm : ∀ r', r' ∈ rows' ↔ ∃ r ∈ rows, r' = img (rtE el) r) : IsRoot es (rtE el) ∧ IsRows es (rtE el) rows' := by
  have ce : Closed es (rtE el) := fun w e he e' he' e1 e2 => by
    obtain ⟨r, hr, q⟩ := h.b e he
    obtain ⟨r', hr', q'⟩ := h.b e' he'
    obtain ⟨a1, a2, a3⟩ := img_pl q w
    obtain ⟨b1, b2, b3⟩ := img_pl q' w
    rw [← a3, ← b3]
    exact hc w r hr r' hr' (by rw [a1, b1, e1]) (by rw [a2, b2, e2])
  refine ⟨⟨rtE_le h.down, rtE_idem h.down, ce, fun t ht z => up_rt h.down (h.up t ht) z⟩, fun r' => ⟨fun hr' => ?_, fun ⟨e, he, q⟩ => ?_⟩⟩
  · obtain ⟨r, hr, rfl⟩ := (hm r').mp hr'
    obtain ⟨e, he, q⟩ := h.a r hr
    exact ⟨e, he, q _ ce⟩
  · obtain ⟨r, hr, q2⟩ := h.b e he
    exact (hm r').mpr ⟨r, hr, by rw [q, q2]⟩
theorem range_getD (n z : Nat) : (List.range n).getD z z = z := by
  rw [List.getD_eq_getElem?_getD]
  by_cases h : z < n
  · rw [List.getElem?_range h] <;> rfl
  · rw [List.getElem?_eq_none (by rw [List.length_range]; omega)] <;> rfl
theorem range_down (n : Nat) : Down (List.range n) := fun x y e => by
  have h := (List.getElem?_eq_some_iff.mp e).1
  rw [List.length_range] at h
  rw [List.getElem?_range h] at e
  cases e
  exact Nat.le_refl _
theorem ss_start (hl : ∀ r ∈ es, r.1 < n ∧ r.2.1 < n ∧ r.2.2 < n) (hf : es.length < 64) : SS n es (List.range n) es :=
  ⟨range_down n, List.length_range, fun t _ z => by rw [range_getD], fun r hr => ⟨r, hr, fun _ _ => rfl⟩, fun e he => ⟨e, he, rfl⟩, hl, hf⟩
end
end RD

end
section
set_option linter.all false
set_option maxRecDepth 100000
set_option maxHeartbeats 4000000
/-! C0: a closing that is being made; promises of its methods; sorted sets of tuples. -/
namespace RD
open PySem PySem.Spec PyProof.Rows L2

structure StD (D : Addr → Prop) (S H S' H' : Hp) : Prop where
  ss : Same S S'
  sh : Same S' H'
  hh : ∀ a o, ¬ D a → H a = some o → H' a = some o
  old : ∀ a, H a ≠ none → S' a = S a
  dom : ∀ a, H a ≠ none → H' a ≠ none
section
variable {D D' : Addr → Prop} {S H S1 H1 S2 H2 : Hp}
theorem StD.refl (h : Same S H) : StD D S H S H := ⟨Same.refl S, h, fun _ _ _ e => e, fun _ _ => rfl, fun _ e => e⟩
theorem StD.trans (a : StD D S H S1 H1) (b : StD D S1 H1 S2 H2) : StD D S H S2 H2 :=
  ⟨a.ss.trans b.ss, b.sh, fun x o hm e => b.hh x o hm (a.hh x o hm e), fun x e => (b.old x (a.dom x e)).trans (a.old x e), fun x e => b.dom x (a.dom x e)⟩
theorem StD.wide (a : StD D S H S1 H1) (k : ∀ x, D x → D' x) : StD D' S H S1 H1 := ⟨a.ss, a.sh, fun x o hm e => a.hh x o (fun z => hm (k x z)) e, a.old, a.dom⟩
theorem StD.of (a : Stp none S H S1 H1) : StD D S H S1 H1 := ⟨a.ss, a.sh, fun x o _ e => a.hh x o (fun z => nomatch z) e, a.old, a.dom⟩
theorem StD.chg {p : Addr} {o : HO} (h : Same S H) (hd : D p) (hS : S p = none) (hp : H p ≠ none) : StD D S H S (upd H p o) := by
  refine ⟨Same.refl S, fun a u e => ?_, fun a u hm e => ?_, fun _ _ => rfl, fun a e => ?_⟩
  · rw [upd_ne (ne_of_none e hS)]
    exact h a u e
  · rw [upd_ne (fun q : a = p => hm (q ▸ hd))]
    exact e
  · by_cases q : a = p
    · rw [q, upd_same]
      exact fun z => nomatch z
    · rw [upd_ne q]
      exact e
end

def nV (n : Nat) : V := .int (n : Int)
/-- a closing that may change: the object, its two lists -/
structure RawC (K : PySem.W.Frag) (C : Addr) (S H : Hp) (p dx e r : Addr) (el : List Nat) (rows : List Ent) : Prop where
  hp : H p = some (.ins C dx [("elder", .ref e), ("rows", .ref r)])
  he : H e = some (.lst (el.map nV))
  hr : ∃ vs, H r = some (.lst vs) ∧ DpAll K S vs (rows.map rowD)
  er : e ≠ r
  sp : S p = none
  se : S e = none
  sr : S r = none
section
variable {K : PySem.W.Frag} {C : Addr} {m : Option Addr} {D : Addr → Prop} {S H S1 H1 S2 H2 : Hp} {p dx e r : Addr} {el el' : List Nat} {rows rows' : List Ent}
theorem nV_map (el : List Nat) : el.map nV = (el.map fun (n : Nat) => (n : Int)).map V.int := by rw [List.map_map] <;> rfl
theorem natD_map (el : List Nat) : el.map natD = (el.map fun (n : Nat) => (n : Int)).map PyData.int := by rw [List.map_map] <;> rfl
theorem dpa_nV (el : List Nat) : DpAll K S (el.map nV) (el.map natD) := by
  rw [nV_map, natD_map]
  exact ints_dpa _
theorem nV_of {vs : List V} {el : List Nat} (h : DpAll K S vs (el.map natD)) : vs = el.map nV := by
  rw [natD_map] at h
  rw [nV_map]
  exact dpa_ints h
theorem RawC.pe (h : RawC K C S H p dx e r el rows) : p ≠ e := fun q => by
  have := h.hp
  rw [q, h.he] at this
  cases this
theorem RawC.pr (h : RawC K C S H p dx e r el rows) : p ≠ r := fun q => by
  obtain ⟨vs, hv, _⟩ := h.hr
  have := h.hp
  rw [q, hv] at this
  cases this
theorem RawC.nz (h : RawC K C S H p dx e r el rows) : H p ≠ none ∧ H e ≠ none ∧ H r ≠ none := by
  obtain ⟨vs, hv, _⟩ := h.hr
  rw [h.hp, h.he, hv]
  exact ⟨(fun z => nomatch z), (fun z => nomatch z), (fun z => nomatch z)⟩
theorem RawC.step (h : RawC K C S H p dx e r el rows) (a : StD D S H S1 H1) (h1 : ¬ D p) (h2 : ¬ D e) (h3 : ¬ D r) : RawC K C S1 H1 p dx e r el rows := by
  obtain ⟨n1, n2, n3⟩ := h.nz
  obtain ⟨vs, hv, hd⟩ := h.hr
  exact ⟨a.hh _ _ h1 h.hp, a.hh _ _ h2 h.he, ⟨vs, a.hh _ _ h3 hv, dpa_mono a.ss hd⟩, h.er, (a.old p n1).trans h.sp, (a.old e n2).trans h.se, (a.old r n3).trans h.sr⟩
/-- .. where the elders change -/
theorem RawC.stepE (h : RawC K C S H p dx e r el rows) (a : StD (fun x => x = e) S H S1 H1) (he : H1 e = some (.lst (el'.map nV))) : RawC K C S1 H1 p dx e r el' rows := by
  obtain ⟨n1, n2, n3⟩ := h.nz
  obtain ⟨vs, hv, hd⟩ := h.hr
  exact ⟨a.hh _ _ h.pe h.hp, he, ⟨vs, a.hh _ _ (fun q => h.er q.symm) hv, dpa_mono a.ss hd⟩, h.er, (a.old p n1).trans h.sp, (a.old e n2).trans h.se, (a.old r n3).trans h.sr⟩
/-- for a while it is stable -/
def vw (S H : Hp) (p e r : Addr) : Hp := fun a => if a = p ∨ a = e ∨ a = r then H a else S a
theorem vw_off {a : Addr} (h : ¬ (a = p ∨ a = e ∨ a = r)) : vw S H p e r a = S a := by unfold vw; rw [if_neg h]
theorem vw_on {a : Addr} (h : a = p ∨ a = e ∨ a = r) : vw S H p e r a = H a := by unfold vw; rw [if_pos h]
theorem RawC.vs (h : RawC K C S H p dx e r el rows) : Same S (vw S H p e r) := fun a o q => by
  rw [vw_off fun z => ?_]
  · exact q
  · rcases z with z | z | z
    · rw [z, h.sp] at q; cases q
    · rw [z, h.se] at q; cases q
    · rw [z, h.sr] at q; cases q
theorem vw_sh (hs : Same S H) : Same (vw S H p e r) H := fun a o q => by
  unfold vw at q
  split at q
  · exact q
  · exact hs a o q
theorem RawC.clo (h : RawC K C S H p dx e r el rows) : CloAt K C (vw S H p e r) (.ref p) ⟨el, rows⟩ := by
  obtain ⟨vs, hv, hd⟩ := h.hr
  exact ⟨p, dx, e, r, rfl, by rw [vw_on (.inl rfl)]; exact h.hp, .lst (.inl (.inl (by rw [vw_on (.inr (.inl rfl))]; exact h.he))) (dpa_nV el), .lst (.inl (.inl (by rw [vw_on (.inr (.inr rfl))]; exact hv))) (dpa_mono h.vs hd)⟩
/-- and no more -/
def unv (S : Hp) (p e r : Addr) : Hp := fun a => if a = p ∨ a = e ∨ a = r then none else S a
theorem RawC.back (h : RawC K C S H p dx e r el rows) (a : Stp none (vw S H p e r) H S1 H1) : StD (fun _ => False) S H (unv S1 p e r) H1 := by
  have off : ∀ a o, S a = some o → ¬ (a = p ∨ a = e ∨ a = r) := fun a o q z => by
    rcases z with z | z | z
    · rw [z, h.sp] at q; cases q
    · rw [z, h.se] at q; cases q
    · rw [z, h.sr] at q; cases q
  refine ⟨fun b o q => ?_, fun b o q => ?_, fun b o _ q => a.same b o q, fun b q => ?_, a.dom⟩
  · unfold unv
    rw [if_neg (off b o q)]
    exact a.ss b o (h.vs b o q)
  · unfold unv at q
    split at q
    · cases q
    · exact a.sh b o q
  · unfold unv
    split
    · rename_i z
      rcases z with z | z | z
      · rw [z, h.sp]
      · rw [z, h.se]
      · rw [z, h.sr]
    · rename_i z
      rw [a.old b q, vw_off z]
def NoLI (o : HO) : Prop := (∀ xs, o ≠ .lst xs) ∧ ∀ C dx fs, o ≠ .ins C dx fs
theorem RawC.tups (h : RawC K C S H p dx e r el rows) (a : Stp none (vw S H p e r) H S1 H1) : ∀ b o, NoLI o → S1 b = some o → unv S1 p e r b = some o := fun b o hn q => by
  unfold unv
  rw [if_neg fun z => ?_]
  · exact q
  · obtain ⟨vs, hv, _⟩ := h.hr
    have h1 := a.sh b _ q
    rcases z with z | z | z
    · rw [z, a.same _ _ h.hp] at h1
      exact hn.2 _ _ _ (Option.some.inj h1).symm
    · rw [z, a.same _ _ h.he] at h1
      exact hn.1 _ (Option.some.inj h1).symm
    · rw [z, a.same _ _ hv] at h1
      exact hn.1 _ (Option.some.inj h1).symm
end
def tupD (ns : List Int) : PyData := .tuple (ns.map PyData.int)
theorem rowD_tup (r : Ent) : rowD r = tupD [(r.1 : Int), (r.2.1 : Int), (r.2.2 : Int)] := rfl
section
variable {K : PySem.W.Frag} {S S1 H : Hp}
theorem sqt_tups (k : ∀ b o, NoLI o → S b = some o → S1 b = some o) {a : Addr} {xs : List V} (h : SqT K S a xs) : SqT K S1 a xs := by
  rcases h with (h | ⟨o, h⟩) | h
  · exact .inl (.inl (k _ _ ⟨(fun _ z => nomatch z), (fun _ _ _ z => nomatch z)⟩ h))
  · exact .inl (.inr ⟨o, k _ _ ⟨(fun _ z => nomatch z), (fun _ _ _ z => nomatch z)⟩ h⟩)
  · exact .inr h
theorem dp_tupD (k : ∀ b o, NoLI o → S b = some o → S1 b = some o) {v : V} {ns : List Int} (h : Dp K S v (tupD ns)) : Dp K S1 v (tupD ns) := by
  unfold tupD at h ⊢
  cases h with
  | tup hq ha =>
    have e := dpa_ints ha
    subst e
    exact .tup (sqt_tups k hq) (ints_dpa ns)
theorem dpa_tupD (k : ∀ b o, NoLI o → S b = some o → S1 b = some o) : ∀ {vs : List V} {ks : List (List Int)}, DpAll K S vs (ks.map tupD) → DpAll K S1 vs (ks.map tupD)
  | _, [], .nil => .nil
  | _, n :: ks, .cons h t => .cons (dp_tupD k h) (dpa_tupD k t)
/-- addresses of tuples of whole numbers -/
theorem dpa_addr : ∀ {vs : List V} {ks : List (List Int)}, DpAll K S vs (ks.map tupD) → ∃ L : List (Addr × List Int), vs = L.map (fun p => V.ref p.1) ∧ ks = L.map (·.2) ∧ ∀ p ∈ L, SqT K S p.1 (p.2.map V.int)
  | _, [], .nil => ⟨[], rfl, rfl, fun _ h => by cases h⟩
  | _, n :: ks, .cons h t => by
    obtain ⟨L, e1, e2, h3⟩ := dpa_addr t
    unfold tupD at h
    cases h with
    | @tup a us _ hq ha =>
      have e := dpa_ints ha
      subst e
      refine ⟨(a, n) :: L, by rw [e1]; rfl, by rw [e2]; rfl, fun p hp => ?_⟩
      rcases List.mem_cons.mp hp with z | z
      · rw [z]
        exact hq
      · exact h3 p z
theorem addr_dpa : ∀ (L : List (Addr × List Int)), (∀ p ∈ L, SqT K S p.1 (p.2.map V.int)) → DpAll K S (L.map fun p => V.ref p.1) ((L.map (·.2)).map tupD)
  | [], _ => .nil
  | p :: L, h => .cons (.tup (h p List.mem_cons_self) (ints_dpa _)) (addr_dpa L fun q hq => h q (List.mem_cons_of_mem _ hq))
end
section
variable {P : Program} {w : World} {K : PySem.W.Frag} {C : Addr} {m : Option Addr} {r : Rho} {te : TE}
/-- sorted(set(..)) of tuples of whole numbers -/
theorem eo_sortSet {ks : List (List Int)} (d : Nat) (h : EvX K C m te r (fun z => z = .d (.list (ks.map tupD)))) (hf : ks.length < 64) (hd : 1 ≤ d) (hb : ∀ k ∈ ks, k.length = d ∧ TS.Bd 64 k) :
    EvO K C m (tCB (rSortedT K P w) (tCons (tCB (rSetOfT K P w) (tCons te tNil)) tNil)) r (fun z => ∃ ks' : List (List Int), z = ks'.map tupD ∧ (∀ k, k ∈ ks' ↔ k ∈ ks) ∧ ks'.Nodup ∧ ks'.length < 64 ∧ ks'.Pairwise (fun a b => TS.code 64 a ≤ TS.code 64 b)) := fun S0 H0 σ S H st Q q => by
  show te σ H _
  refine h S0 H0 σ S H st _ fun v s S1 H1 e st1 hv => ?_
  subst e
  have st' := st.step st1
  cases hv with
  | @lst l vs _ hq ha =>
    obtain ⟨L0, e1, e2, h3⟩ := dpa_addr ha
    subst e1 e2
    refine ⟨l, L0, rfl, st1.sh.seq hq, fun p hp => same_t st1.sh (h3 p hp), by rw [List.length_map] at hf; exact hf, fun a L hn hsub hall => ?_⟩
    have la : Stp m S1 H1 S1 (upd H1 a (SetTO P w a L)) := Stp.lay st1.sh hn
    refine ⟨a, L, d, 64, rfl, upd_same, fun p hp => same_t la.sh (h3 p (hsub p hp)), hd, fun p hp => hb _ (List.mem_map.mpr ⟨p, hsub p hp, rfl⟩), fun L' p hperm hnd hlen hpw hp => ?_⟩
    have lp : Stp m S1 (upd H1 a (SetTO P w a L)) S1 (upd (upd H1 a (SetTO P w a L)) p (.lst (L'.map fun q => V.ref q.1))) := Stp.lay la.sh hp
    have st2 := st1.trans (la.trans lp)
    refine q p _ ((L'.map (·.2)).map tupD) S1 _ ⟨L'.map (·.2), rfl, fun k => ?_, hnd, by rw [List.length_map]; exact hlen, List.pairwise_map.mpr hpw⟩ (none_of (st1.trans la) hp) st2 (none_S la.sh hp) upd_same (addr_dpa L' fun q hq => h3 q (hsub q (hperm.mem_iff.mp hq)))
    constructor
    · intro hk
      obtain ⟨q, hq, rfl⟩ := List.mem_map.mp hk
      exact List.mem_map.mpr ⟨q, hsub q (hperm.mem_iff.mp hq), rfl⟩
    · intro hk
      obtain ⟨q, hq, rfl⟩ := List.mem_map.mp hk
      obtain ⟨q', hq', e⟩ := List.mem_map.mp (hall q hq)
      exact List.mem_map.mpr ⟨q', hperm.mem_iff.mpr hq', e⟩
/-- slots as they stand -/
inductive Fit (K : PySem.W.Frag) (C : Addr) (S H : Hp) : L2.St → Rho → Prop
  | nil : Fit K C S H [] []
  | no {y σ r} : Fit K C S H σ r → Fit K C S H (y :: σ) (none :: r)
  | it {v s σ r} : s.pure = true → ShAt K C S H v s → Fit K C S H σ r → Fit K C S H (some v :: σ) (some s :: r)
theorem Fit.len {S H : Hp} {σ : L2.St} {r : Rho} (f : Fit K C S H σ r) : σ.length = r.length := by
  induction f with
  | nil => rfl
  | no _ ih => rw [List.length_cons, List.length_cons, ih]
  | it _ _ _ ih => rw [List.length_cons, List.length_cons, ih]
theorem Fit.get {S H : Hp} {σ : L2.St} {r : Rho} (f : Fit K C S H σ r) : ∀ (i : Nat) s, r[i]? = some (some s) → s.pure = true ∧ ∃ v, σ[i]? = some (some v) ∧ ShAt K C S H v s := by
  induction f with
  | nil => intro i s h; simp at h
  | no _ ih =>
    intro i s h
    cases i with
    | zero => simp at h
    | succ i => exact ih i s (by simpa using h)
  | it hp hv _ ih =>
    intro i s h
    cases i with
    | zero =>
      simp at h
      subst h
      exact ⟨hp, _, rfl, hv⟩
    | succ i => exact ih i s (by simpa using h)
theorem Fit.owns {S H : Hp} {σ : L2.St} {r : Rho} (f : Fit K C S H σ r) : RD.owns r = [] := by
  induction f with
  | nil => rfl
  | no _ ih => exact ih
  | @it v s σ r hp _ _ ih =>
    have e : ownOf (some s) = none := by cases s <;> first | rfl | cases hp
    unfold RD.owns at ih ⊢
    rw [List.filterMap_cons, e]
    exact ih
theorem Fit.st {S H : Hp} {σ : L2.St} {r : Rho} (f : Fit K C S H σ r) (hs : Same S H) : StAt K C none S H r σ S H := by
  have eo := f.owns
  refine ⟨Stp.refl hs, f.len, fun i s h => (f.get i s h).2, fun l hl => (by rw [eo] at hl; cases hl), (by rw [eo]; exact List.nodup_nil), (fun b e => nomatch e), fun i b h => ?_⟩
  have := (f.get i _ h).1
  cases this
theorem gt_lst {gs : TGs} {r' : Rho} {xs : List PyData} {js : List Nat} {n : Nat} (h : GTs K C m gs (dsOf xs) r r' js) (hn : xs.length = n := by rfl) : GT K C m (gLst K n gs) (.d (.list xs)) r r' js := fun S0 H0 σ S H v st hv Q q => by
  have hv : Dp K S v (.list xs) := hv
  cases hv with
  | lst hq ha => exact ⟨_, _, rfl, st.sh.seq hq, by rw [dpa_len ha, hn], h S0 H0 σ S H _ st (dpa_paired ha) Q q⟩
/-- sorted([x, y]) -/
theorem rxa_sorted2 {x y : Nat} : RXA K C (rSorted K) [.d (.list [natD x, natD y])] (fun z => z = .d (.list [natD (min x y), natD (max x y)])) := fun S H vs hs hv Q q => by
  cases hv with
  | cons h t =>
    cases t
    cases h with
    | @lst a us _ hq ha =>
      have e := dpa_ints (ns := [(x : Int), (y : Int)]) ha
      subst e
      refine ⟨a, [(x : Int), (y : Int)], rfl, hs.seq hq, (show 2 < 64 by decide), fun ns' p hperm hs' hp => ?_⟩
      have e : ns' = [((min x y : Nat) : Int), ((max x y : Nat) : Int)] := by
        have hl := hperm.length_eq
        match ns', hl with
        | [a, b], _ =>
          have m1 := hperm.mem_iff (a := a)
          have m2 := hperm.mem_iff (a := b)
          have m3 := hperm.mem_iff (a := (x : Int))
          have m4 := hperm.mem_iff (a := (y : Int))
          simp at m1 m2 m3 m4
          simp at hs'
          have c1 : a = ((min x y : Nat) : Int) := by omega
          have c2 : b = ((max x y : Nat) : Int) := by omega
          rw [c1, c2]
      subst e
      have sn : Stp none S H (upd S p (.lst ([((min x y : Nat) : Int), ((max x y : Nat) : Int)].map V.int))) (upd H p (.lst ([((min x y : Nat) : Int), ((max x y : Nat) : Int)].map V.int))) := Stp.new hs hp
      exact q _ _ _ _ rfl sn (.lst (.inl (.inl upd_same)) (.cons (.int _) (.cons (.int _) .nil)))
end

/-! ### promises of the methods that change a closing -/
section
variable (K : PySem.W.Frag) (C : Addr)
def RowsOk (n : Nat) (rows : List Ent) : Prop := ∀ r ∈ rows, r.1 < n ∧ r.2.1 < n ∧ r.2.2 < n
def PClosingJoin : Sp := fun vs H Q _ => ∃ (S : Hp) (p dx e r : Addr) (el : List Nat) (rows : List Ent) (x y : Nat), vs = [.ref p, nV x, nV y] ∧ Same S H ∧ RawC K C S H p dx e r el rows ∧ Down el ∧ x < el.length ∧ y < el.length ∧
  ∀ S' H', StD (fun a => a = e) S H S' H' → H' e = some (.lst ((joinE el x y).map nV)) → Q (.bl (decide (rtE el x ≠ rtE el y))) H'
def PClosingRooted : Sp := fun vs H Q _ => ∃ (S : Hp) (p dx e r : Addr) (el : List Nat) (rows : List Ent), vs = [.ref p] ∧ Same S H ∧ RawC K C S H p dx e r el rows ∧ Down el ∧ RowsOk el.length rows ∧ el.length ≤ 8 ∧ rows.length < 64 ∧
  ∀ (l : Addr) (vs : List V) (rows' : List Ent) (S' H' : Hp), StD (fun _ => False) S H S' H' → H l = none → S' l = none → H' l = some (.lst vs) → DpAll K S' vs (rows'.map rowD) → (∀ r', r' ∈ rows' ↔ ∃ r ∈ rows, r' = img (rtE el) r) → rows'.length < 64 → Q (.ref l) H'
def PClosingIsJoined : Sp := fun vs H Q _ => ∃ (S : Hp) (p dx e r : Addr) (el : List Nat) (rows : List Ent) (v : V) (w : Wd), vs = [.ref p, v] ∧ Same S H ∧ RawC K C S H p dx e r el rows ∧ Dp K S v (placesD w) ∧ Down el ∧ RowsOk el.length rows ∧ rows.length < 64 ∧
  ∀ (S' H' : Hp) (el' : List Nat) (b : Bool), StD (fun a => a = e) S H S' H' → H' e = some (.lst (el'.map nV)) → JR w rows el el' b → Q (.bl b) H'
def PClosingSettle : Sp := fun vs H Q _ => ∃ (S : Hp) (p dx e r : Addr) (n : Nat) (es : List Ent) (el : List Nat) (rows : List Ent), vs = [.ref p] ∧ Same S H ∧ RawC K C S H p dx e r el rows ∧ SS n es el rows ∧ n ≤ 8 ∧
  ∀ (S' H' : Hp) (r' : Addr) (el' : List Nat) (rows' : List Ent), StD (fun a => a = e ∨ a = p) S H S' H' → RawC K C S' H' p dx e r' el' rows' → H r' = none → Down el' → el'.length = n → IsRoot es (rtE el') → IsRows es (rtE el') rows' → Q .non H'
def PClosing : Sp := fun vs H Q _ => ∃ (S : Hp) (p dx : Addr) (v : V) (n : Nat) (es : List Ent), vs = [.ref p, nV n, v] ∧ Same S H ∧ H p = some (.ins C dx []) ∧ S p = none ∧ Dp K S v (.tuple (es.map rowD)) ∧ RowsOk n es ∧ n ≤ 8 ∧ es.length < 64 ∧
  ∀ (S' H' : Hp) (e r : Addr) (el : List Nat) (rows : List Ent), StD (fun a => a = p) S H S' H' → RawC K C S' H' p dx e r el rows → H e = none → H r = none → Down el → el.length = n → IsRoot es (rtE el) → IsRows es (rtE el) rows → Q .non H'
end
end RD

end
section
set_option linter.all false
set_option maxRecDepth 100000
set_option maxHeartbeats 4000000
namespace RD
open PySem PySem.Spec PyProof.Rows L2
abbrev sClosingInit : Stmt := L2.inClass (topS 19) 0
abbrev NClosingInit : List Str := ["self", "many", "entries"]
theorem scClosingInit : FnScope NClosingInit ["self", "many", "entries"] (defScope sClosingInit) := ⟨rfl, rfl, rfl, by decide +kernel, rfl, by decide +kernel, by decide +kernel⟩
def tClosingInit (K : PySem.W.Frag) (C : Addr) : TS :=
  (tSeq (sFld K (tVar 0) (tLstRg (tRg1 (tVar 1))) "elder")
    (tSeq (sFld K (tVar 0) (tCB (rLstOf K) (tCons (tVar 2) tNil)) "rows")
    (tDrop (tMeth C "settle" (PClosingSettle K C) [] L2.E0 (tVar 0) tNil))))
set_option maxHeartbeats 8000000 in
theorem dvClosingInit {P : Program} {w : World} {K : PySem.W.Frag} {mg : Str → Option Value} {base : Heap} {C aW aP : Addr} {f : Addr} {cdv : Value} {A : Around} {outer : List Env} {s : Shared} {H : Hp} {E : XK} {k : Nat} (T : Bl K w mg C aW aP) {jClosingSettle : Nat} (cClosingSettle : Mt P w K mg base jClosingSettle C "settle" (PClosingSettle K C)) (hjClosingSettle : jClosingSettle ≤ k) (hr : Room k (A.deeper (envOfC "Closing.__init__" (defScope sClosingInit) s.heap.objs.size f cdv))) :
    PSs (cxOf L2.CX0 P w K mg base NClosingInit "Closing.__init__" (defScope sClosingInit) f cdv A outer s H E).nox (defBody sClosingInit) (tClosingInit K C) :=
  (pss_cons (ps_fld (pv 0) (pe_listRg rfl (by rfl) T.list_ (prg_1 (by rfl) T.range_ (pv 1))) rfl)
    (pss_cons (ps_fld (pv 0) (pe_callTy call_list_of (by rfl) T.list_ (by decide +kernel) (pa_cons (pv 2) pa_nil)) rfl)
    (pss_one (ps_expr (pe_m0 cClosingSettle hr (by omega) (pv 0))))))
abbrev sClosingJoin : Stmt := L2.inClass (topS 19) 2
abbrev NClosingJoin : List Str := ["self", "one", "other", "low", "high"]
theorem scClosingJoin : FnScope NClosingJoin ["self", "one", "other"] (defScope sClosingJoin) := ⟨rfl, rfl, rfl, by decide +kernel, rfl, by decide +kernel, by decide +kernel⟩
def tClosingJoin (K : PySem.W.Frag) (C : Addr) : TS :=
  (tSeq (tAsg (tCB (rSorted K) (tCons (tLst (tCons (tMeth C "root" (PClosingRoot K C) [] L2.E0 (tVar 0) (tCons (tVar 1) tNil)) (tCons (tMeth C "root" (PClosingRoot K C) [] L2.E0 (tVar 0) (tCons (tVar 2) tNil)) tNil))) tNil)) (gLst K 2 (gCons (gName 3) (gCons (gName 4) gNil))))
    (tSeq (tAsg (tVar 3) (gSub (tFld K (tVar 0) "elder") (tVar 4) rSetL))
    (tRet (tOp (rI0 fun i j => .bl (decide (i < j))) (tVar 3) (tVar 4)))))
set_option maxHeartbeats 8000000 in
theorem dvClosingJoin {P : Program} {w : World} {K : PySem.W.Frag} {mg : Str → Option Value} {base : Heap} {C aW aP : Addr} {f : Addr} {cdv : Value} {A : Around} {outer : List Env} {s : Shared} {H : Hp} {E : XK} {k : Nat} (T : Bl K w mg C aW aP) {jClosingRoot : Nat} (cClosingRoot : Mt P w K mg base jClosingRoot C "root" (PClosingRoot K C)) (hjClosingRoot : jClosingRoot ≤ k) (hr : Room k (A.deeper (envOfC "Closing.join" (defScope sClosingJoin) s.heap.objs.size f cdv))) :
    PSs (cxOf L2.CX0 P w K mg base NClosingJoin "Closing.join" (defScope sClosingJoin) f cdv A outer s H E).nox (defBody sClosingJoin) (tClosingJoin K C) :=
  (pss_cons (ps_asg (pe_callB cr_sorted (by rfl) T.sorted_ (by decide +kernel) (pa_cons (pe_lst (pa_cons (pe_m cClosingRoot hr (by omega) (pv 0) (pa_cons (pv 1) pa_nil)) (pa_cons (pe_m cClosingRoot hr (by omega) (pv 0) (pa_cons (pv 2) pa_nil)) pa_nil))) pa_nil)) (pg_lst rfl (pgs_cons (pg_name (i := 3) scClosingJoin.nd rfl (Or.inl rfl)) (pgs_cons (pg_name (i := 4) scClosingJoin.nd rfl (Or.inl rfl)) pgs_nil))))
    (pss_cons (ps_asg (pv 3) (pg_sub (pe_fld (pv 0) rfl) (pv 4) set_list))
    (pss_one (ps_ret (pe_cmpR op_lt (pv 3) (pv 4) (nomark _))))))
abbrev sClosingRooted : Stmt := L2.inClass (topS 19) 3
abbrev NClosingRooted : List Str := ["self", "row", "thing"]
theorem scClosingRooted : FnScope NClosingRooted ["self"] (defScope sClosingRooted) := ⟨rfl, rfl, rfl, by decide +kernel, rfl, by decide +kernel, by decide +kernel⟩
def tClosingRooted (K : PySem.W.Frag) (C : Addr) (P : Program) (w : World) : TS :=
  (tRet (tCB (rSortedT K P w) (tCons (tCB (rSetOfT K P w) (tCons (tLc (iList K (tFld K (tVar 0) "rows")) (gName 1) tYes (tCB (rTupOf K) (tCons (tLc (iTup K (tVar 1)) (gName 2) tYes (tMeth C "root" (PClosingRoot K C) [] L2.E0 (tVar 0) (tCons (tVar 2) tNil)) [2]) tNil)) [1]) tNil)) tNil)))
set_option maxHeartbeats 8000000 in
theorem dvClosingRooted {P : Program} {w : World} {K : PySem.W.Frag} {mg : Str → Option Value} {base : Heap} {C aW aP : Addr} {f : Addr} {cdv : Value} {A : Around} {outer : List Env} {s : Shared} {H : Hp} {E : XK} {k : Nat} (T : Bl K w mg C aW aP) {jClosingRoot : Nat} (cClosingRoot : Mt P w K mg base jClosingRoot C "root" (PClosingRoot K C)) (hjClosingRoot : jClosingRoot ≤ k) (hr : Room k (A.deeper (envOfC "Closing.rooted" (defScope sClosingRooted) s.heap.objs.size f cdv))) :
    PSs (cxOf L2.CX0 P w K mg base NClosingRooted "Closing.rooted" (defScope sClosingRooted) f cdv A outer s H E).nox (defBody sClosingRooted) (tClosingRooted K C P w) :=
  (pss_one (ps_ret (pe_callB (cr_sortedT rfl) (by rfl) T.sorted_ (by decide +kernel) (pa_cons (pe_callTy (cr_setOfT rfl hr.units) (by rfl) T.set_ (by decide +kernel) (pa_cons (pe_lc (own := [("row", 1)]) (g := (gName 1)) (tt := tYes) (te := (tCB (rTupOf K) (tCons (tLc (iTup K (tVar 1)) (gName 2) tYes (tMeth C "root" (PClosingRoot K C) [] L2.E0 (tVar 0) (tCons (tVar 2) tNil)) [2]) tNil))) rfl scClosingRooted.nd (pi_list (pe_fld (pv 0) rfl)) (blkOk_by (N := NClosingRooted) (sc := (defScope sClosingRooted)) (own := [("row", 1)]) (by decide +kernel)) (fun _ _ _ _ _ => (pg_name (i := 1) scClosingRooted.nd rfl (Or.inl rfl))) (fun _ _ _ _ _ => pts_nil) (fun _ _ _ _ _ => (pe_callTy call_tuple_of (by rfl) T.tuple_ (by decide +kernel) (pa_cons (pe_lc (own := [("thing", 2)]) (g := (gName 2)) (tt := tYes) (te := (tMeth C "root" (PClosingRoot K C) [] L2.E0 (tVar 0) (tCons (tVar 2) tNil))) rfl scClosingRooted.nd (pi_tup (pv 1)) (blkOk_by (own := [("thing", 2)]) (by kernel_rfl)) (fun _ _ _ _ _ => (pg_name (i := 2) scClosingRooted.nd rfl (Or.inl rfl))) (fun _ _ _ _ _ => pts_nil) (fun _ _ _ _ _ => (pe_m cClosingRoot hr (by omega) (pv 0) (pa_cons (pv 2) pa_nil)))) pa_nil)))) pa_nil)) pa_nil))))
abbrev sClosingIsJoined : Stmt := L2.inClass (topS 19) 4
abbrev NClosingIsJoined : List Str := ["self", "places", "found", "is_new", "row", "key"]
theorem scClosingIsJoined : FnScope NClosingIsJoined ["self", "places"] (defScope sClosingIsJoined) := ⟨rfl, rfl, rfl, by decide +kernel, rfl, by decide +kernel, by decide +kernel⟩
def tClosingIsJoined (K : PySem.W.Frag) (C : Addr) : TS :=
  (tSeq (tPar 2 3 (tCons tDNewT (tCons (tC (.bl false)) tNil)))
    (tSeq (tFor (iList K (tFld K (tVar 0) "rows")) (gName 4) (tSeq (tAsg (tTup (tCons (tMeth C "root" (PClosingRoot K C) [] L2.E0 (tVar 0) (tCons (tOp (rIx K) (tVar 4) (tOp (rIx K) (tVar 1) (tC (.int 0)))) tNil)) (tCons (tMeth C "root" (PClosingRoot K C) [] L2.E0 (tVar 0) (tCons (tOp (rIx K) (tVar 4) (tOp (rIx K) (tVar 1) (tC (.int 1)))) tNil)) tNil))) (gName 5))
    (tIfS (tB (tDNotIn (tVar 5) (tVar 2))) (sDPut (tVar 2) (tVar 5) (tOp (rIx K) (tVar 4) (tOp (rIx K) (tVar 1) (tC (.int 2))))) (tIfS (tB (tMeth C "join" (PClosingJoin K C) [] L2.E0 (tVar 0) (tCons (tDGet (tVar 2) (tVar 5)) (tCons (tOp (rIx K) (tVar 4) (tOp (rIx K) (tVar 1) (tC (.int 2)))) tNil)))) (tAsg (tC (.bl true)) (gName 3)) tNext))))
    (tRet (tVar 3))))
set_option maxHeartbeats 8000000 in
theorem dvClosingIsJoined {P : Program} {w : World} {K : PySem.W.Frag} {mg : Str → Option Value} {base : Heap} {C aW aP : Addr} {f : Addr} {cdv : Value} {A : Around} {outer : List Env} {s : Shared} {H : Hp} {E : XK} {k : Nat} (T : Bl K w mg C aW aP) {jClosingRoot : Nat} (cClosingRoot : Mt P w K mg base jClosingRoot C "root" (PClosingRoot K C)) (hjClosingRoot : jClosingRoot ≤ k)
    {jClosingJoin : Nat} (cClosingJoin : Mt P w K mg base jClosingJoin C "join" (PClosingJoin K C)) (hjClosingJoin : jClosingJoin ≤ k) (hr : Room k (A.deeper (envOfC "Closing.is_joined" (defScope sClosingIsJoined) s.heap.objs.size f cdv))) :
    PSs (cxOf L2.CX0 P w K mg base NClosingIsJoined "Closing.is_joined" (defScope sClosingIsJoined) f cdv A outer s H E).nox (defBody sClosingIsJoined) (tClosingIsJoined K C) :=
  (pss_cons (ps_par (i := 2) (j := 3) rfl scClosingIsJoined.nd rfl rfl (by decide) rfl rfl (pa_cons pe_dnewT (pa_cons pe_bl pa_nil)) (by rfl))
    (pss_cons (ps_for PassesOwn.never rfl (pi_list (pe_fld (pv 0) rfl)) (pg_name (i := 4) scClosingIsJoined.nd rfl (Or.inl rfl)) (pss_cons (ps_set (i := 5) scClosingIsJoined.nd rfl (Or.inl rfl) (pe_tup (pa_cons (pe_m cClosingRoot hr (by omega) (pv 0) (pa_cons (pe_ix ix_seq (pv 4) (pe_ix ix_seq (pv 1) pe_int (fun _ _ => rfl)) (fun _ _ => rfl)) pa_nil)) (pa_cons (pe_m cClosingRoot hr (by omega) (pv 0) (pa_cons (pe_ix ix_seq (pv 4) (pe_ix ix_seq (pv 1) pe_int (fun _ _ => rfl)) (fun _ _ => rfl)) pa_nil)) pa_nil))))
    (pss_one (ps_if (pt_cmp (pc_dnotin (hu_of hr) (pv 5) (pv 2))) (pss_one (ps_dput (hu_of hr) (pv 2) (pv 5) (pe_ix ix_seq (pv 4) (pe_ix ix_seq (pv 1) pe_int (fun _ _ => rfl)) (fun _ _ => rfl)) rfl)) (pss_one (ps_if (pt_val (pe_m cClosingJoin hr (by omega) (pv 0) (pa_cons (pe_dget (hu_of hr) (pv 2) (pv 5) (fun _ _ => rfl)) (pa_cons (pe_ix ix_seq (pv 4) (pe_ix ix_seq (pv 1) pe_int (fun _ _ => rfl)) (fun _ _ => rfl)) pa_nil)))) (pss_one (ps_set (i := 3) scClosingIsJoined.nd rfl (Or.inl rfl) pe_bl)) pss_nil))))))
    (pss_one (ps_ret (pv 3)))))
abbrev sClosingSettle : Stmt := L2.inClass (topS 19) 5
abbrev NClosingSettle : List Str := ["self", "word"]
theorem scClosingSettle : FnScope NClosingSettle ["self"] (defScope sClosingSettle) := ⟨rfl, rfl, rfl, by decide +kernel, rfl, by decide +kernel, by decide +kernel⟩
def tClosingSettle (K : PySem.W.Frag) (C : Addr) (P : Program) (w : World) (aW aP : Addr) : TS :=
  (tSeq (tWhile (tB (tCB (rAny K) (tCons (tLc (iKKeys K (tC (.ref aP))) (gName 1) tYes (tMeth C "is_joined" (PClosingIsJoined K C) [] L2.E0 (tVar 0) (tCons (tOp (rIxD K w) (tC (.ref aP)) (tVar 1)) tNil)) [1]) tNil))) (sFld K (tVar 0) (tMeth C "rooted" (PClosingRooted K C) [] L2.E0 (tVar 0) tNil) "rows"))
    (sFld K (tVar 0) (tMeth C "rooted" (PClosingRooted K C) [] L2.E0 (tVar 0) tNil) "rows"))
set_option maxHeartbeats 8000000 in
theorem dvClosingSettle {P : Program} {w : World} {K : PySem.W.Frag} {mg : Str → Option Value} {base : Heap} {C aW aP : Addr} {f : Addr} {cdv : Value} {A : Around} {outer : List Env} {s : Shared} {H : Hp} {E : XK} {k : Nat} (T : Bl K w mg C aW aP) {jClosingRooted : Nat} (cClosingRooted : Mt P w K mg base jClosingRooted C "rooted" (PClosingRooted K C)) (hjClosingRooted : jClosingRooted ≤ k)
    {jClosingIsJoined : Nat} (cClosingIsJoined : Mt P w K mg base jClosingIsJoined C "is_joined" (PClosingIsJoined K C)) (hjClosingIsJoined : jClosingIsJoined ≤ k) (hr : Room k (A.deeper (envOfC "Closing.settle" (defScope sClosingSettle) s.heap.objs.size f cdv))) :
    PSs (cxOf L2.CX0 P w K mg base NClosingSettle "Closing.settle" (defScope sClosingSettle) f cdv A outer s H E).nox (defBody sClosingSettle) (tClosingSettle K C P w aW aP) :=
  (pss_cons (ps_while PassesOwn.never (pt_val (pe_callB (cr_any rfl) (by rfl) T.any_ (by decide +kernel) (pa_cons (pe_lc (own := [("word", 1)]) (g := (gName 1)) (tt := tYes) (te := (tMeth C "is_joined" (PClosingIsJoined K C) [] L2.E0 (tVar 0) (tCons (tOp (rIxD K w) (tC (.ref aP)) (tVar 1)) tNil))) rfl scClosingSettle.nd (pi_kkeys (C8.pe_gc (by rfl) T.gPLACES)) (blkOk_by (N := NClosingSettle) (sc := (defScope sClosingSettle)) (own := [("word", 1)]) (by decide +kernel)) (fun _ _ _ _ _ => (pg_name (i := 1) scClosingSettle.nd rfl (Or.inl rfl))) (fun _ _ _ _ _ => pts_nil) (fun _ _ _ _ _ => (pe_m cClosingIsJoined hr (by omega) (pv 0) (pa_cons (pe_ix ix_kdict (C8.pe_gc (by rfl) T.gPLACES) (pv 1) (fun _ _ => rfl)) pa_nil)))) pa_nil))) (pss_one (ps_fld (pv 0) (pe_m0 cClosingRooted hr (by omega) (pv 0)) rfl)))
    (pss_one (ps_fld (pv 0) (pe_m0 cClosingRooted hr (by omega) (pv 0)) rfl)))
abbrev sClosingOf : Stmt := topS 22
abbrev NClosingOf : List Str := ["facts"]
theorem scClosingOf : FnScope NClosingOf ["facts"] (defScope sClosingOf) := ⟨rfl, rfl, rfl, by decide +kernel, rfl, by decide +kernel, by decide +kernel⟩
def tClosingOf (K : PySem.W.Frag) (C : Addr) : TS :=
  (tRet (tMake C (PClosing K C) [] L2.E0 (tCons (tOp (rIx K) (tVar 0) (tC (.int 0))) (tCons (tOp (rIx K) (tVar 0) (tC (.int 1))) tNil))))
set_option maxHeartbeats 8000000 in
theorem dvClosingOf {P : Program} {w : World} {K : PySem.W.Frag} {mg : Str → Option Value} {base : Heap} {C aW aP : Addr} {f : Addr} {cdv : Value} {A : Around} {outer : List Env} {s : Shared} {H : Hp} {E : XK} {k : Nat} (T : Bl K w mg C aW aP) {jClosing : Nat} (cClosing : Mkr P w K mg base jClosing "Closing" C (PClosing K C)) (hjClosing : jClosing + 1 ≤ k) (hr : Room k (A.deeper (envOfC "closing_of" (defScope sClosingOf) s.heap.objs.size f cdv))) :
    PSs (cxOf L2.CX0 P w K mg base NClosingOf "closing_of" (defScope sClosingOf) f cdv A outer s H E).nox (defBody sClosingOf) (tClosingOf K C) :=
  (pss_one (ps_ret (pe_k cClosing hr (by omega) (by rfl) (pa_cons (pe_ix ix_seq (pv 0) pe_int (fun _ _ => rfl)) (pa_cons (pe_ix ix_seq (pv 0) pe_int (fun _ _ => rfl)) pa_nil)))))
end RD

end
section
set_option linter.all false
set_option maxRecDepth 100000
set_option maxHeartbeats 4000000
/-! C1: join, rooted. -/
namespace RD
open PySem PySem.Spec PyProof.Rows L2
section
variable {P : Program} {w : World} {K : PySem.W.Frag} {mg : Str → Option Value} {base : Heap} {C aW aP : Addr} {m : Option Addr} {r : Rho} {ta te : TE}
theorem cl_Join (T : Bl K w mg C aW aP) (cR : Mt P w K mg base 1 C "root" (PClosingRoot K C)) (d : Dm K C "join" "Closing.join" sClosingJoin ["self", "one", "other"]) : Mt P w K mg base 2 C "join" (PClosingJoin K C) := by
  obtain ⟨f, fd, c, me, F, b⟩ := d.ex
  refine ⟨f, fd, _, c, me, F.ok scClosingJoin (fun vs H Q E h => ?_) (fun cdv A outer s H vs Q E hr h => ?_), b⟩
  · obtain ⟨S, p, dx, e, r, el, rows, x, y, rfl, _⟩ := h
    rfl
  · obtain ⟨S, p, dx, e, r, el, rows, x, y, rfl, hs, hc, hd, hx, hy, q⟩ := h
    refine ⟨_, dvClosingJoin T cR (by omega) hr, ?_⟩
    have f0 : Fit K C (vw S H p e r) H (L2.start NClosingJoin [.ref p, nV x, nV y]) [some (.clo ⟨el, rows⟩), some (.d (natD x)), some (.d (natD y)), none, none] :=
      .it rfl hc.clo (.it rfl (Dp.int _) (.it rfl (Dp.int _) (.no (.no .nil))))
    have st := f0.st (vw_sh hs)
    refine (er_cb (ea_cons (er_lst (xs := [natD (rtE el x), natD (rtE el y)]) (ea_cons (er_root (c := ⟨el, rows⟩) hd hx (er_var rfl rfl) (er_var rfl rfl)) (ea_cons (er_root (c := ⟨el, rows⟩) hd hy (er_var rfl rfl) (er_var rfl rfl)) ea_nil)) (show 2 ≤ 100000 by decide)) ea_nil) rxa_sorted2) _ _ _ _ _ st _ fun v1 s1 S1 H1 e1 st1 hv1 => ?_
    subst e1
    cases hv1 with
    | @lst a us _ hq ha =>
      have e := nV_of (el := [min (rtE el x) (rtE el y), max (rtE el x) (rtE el y)]) ha
      subst e
      have bk := hc.back st1
      have hp1 : H1 p = _ := bk.hh _ _ (fun z => z) hc.hp
      have he1 : H1 e = _ := bk.hh _ _ (fun z => z) hc.he
      have lx := rtE_lt hd hx
      have ly := rtE_lt hd hy
      refine ⟨a, _, rfl, st1.sh.seq hq, rfl, _, _, rfl, _, _, rfl, rfl, ?_⟩
      refine ⟨nV (min (rtE el x) (rtE el y)), rfl, .ref p, rfl, p, C, dx, _, .ref e, rfl, hp1, T.cl, T.nE, rfl, nV (max (rtE el x) (rtE el y)), rfl, e, _, _, _, rfl, rfl, he1, ixN_nat (i := max (rtE el x) (rtE el y)) (by rw [List.length_map]; omega), ?_⟩
      refine ⟨nV (min (rtE el x) (rtE el y)), rfl, nV (max (rtE el x) (rtE el y)), rfl, _, _, rfl, rfl, ?_⟩
      have ev : ((el.map nV).set (max (rtE el x) (rtE el y)) (nV (min (rtE el x) (rtE el y)))) = (joinE el x y).map nV := by
        unfold joinE
        rw [List.map_set]
      rw [ev]
      have eb : decide (((min (rtE el x) (rtE el y) : Nat) : Int) < ((max (rtE el x) (rtE el y) : Nat) : Int)) = decide (rtE el x ≠ rtE el y) := by
        by_cases z : rtE el x = rtE el y
        · rw [decide_eq_false (by omega), decide_eq_false (by omega)]
        · rw [decide_eq_true (by omega), decide_eq_true (by omega)]
      show Q (.bl (decide (((min (rtE el x) (rtE el y) : Nat) : Int) < ((max (rtE el x) (rtE el y) : Nat) : Int)))) _
      rw [eb]
      have se := (bk.old e hc.nz.2.1).trans hc.se
      exact q _ _ ((bk.wide fun _ z => z.elim).trans (StD.chg bk.sh rfl se (by rw [he1]; exact fun z => nomatch z))) upd_same
def rootD (el : List Nat) : PyData → PyData
  | .int i => natD (rtE el i.toNat)
  | d => d
def rootRowD (el : List Nat) : PyData → PyData
  | .tuple ds => .tuple (ds.map (rootD el))
  | d => d
theorem rootRow_eq (el : List Nat) (r : Ent) : rootRowD el (rowD r) = rowD (img (rtE el) r) := by
  obtain ⟨x, y, z⟩ := r
  show PyData.tuple [natD (rtE el (x : Int).toNat), natD (rtE el (y : Int).toNat), natD (rtE el (z : Int).toNat)] = _
  rw [Int.toNat_natCast, Int.toNat_natCast, Int.toNat_natCast] <;> rfl
def entI (r : Ent) : List Int := [(r.1 : Int), (r.2.1 : Int), (r.2.2 : Int)]
theorem entI_inj {a b : Ent} (h : entI a = entI b) : a = b := by
  obtain ⟨x, y, z⟩ := a
  obtain ⟨x', y', z'⟩ := b
  unfold entI at h
  simp at h
  obtain ⟨h1, h2, h3⟩ := h
  have : x = x' := by omega
  have : y = y' := by omega
  have : z = z' := by omega
  subst_vars
  rfl
theorem rows_ent (rows : List Ent) : rows.map rowD = (rows.map entI).map tupD := by rw [List.map_map] <;> rfl
/-- what sorted(set(..)) hands back, as rows -/
theorem ent_back {ks : List (List Int)} {rows : List Ent} (h : ∀ k ∈ ks, k ∈ rows.map entI) : ∃ rows' : List Ent, ks = rows'.map entI := by
  induction ks with
  | nil => exact ⟨[], rfl⟩
  | cons k ks ih =>
    obtain ⟨rows', e⟩ := ih fun k hk => h k (List.mem_cons_of_mem _ hk)
    obtain ⟨r, _, er⟩ := List.mem_map.mp (h k List.mem_cons_self)
    exact ⟨r :: rows', by rw [List.map_cons, er, e]⟩
theorem mem_ent {rows : List Ent} {r : Ent} : entI r ∈ rows.map entI ↔ r ∈ rows := by
  constructor
  · intro h
    obtain ⟨r', h1, h2⟩ := List.mem_map.mp h
    rw [← entI_inj h2]
    exact h1
  · intro h
    exact List.mem_map.mpr ⟨r, h, rfl⟩
/-- tuple([f(x) for x in a row]) and such: the rows under their roots, sorted -/
theorem eo_sortRows {rows : List Ent} {n : Nat} (h : EvX K C m te r (fun z => z = .d (.list (rows.map rowD)))) (hl : RowsOk n rows) (hn : n ≤ 64) (hf : rows.length < 64) :
    EvO K C m (tCB (rSortedT K P w) (tCons (tCB (rSetOfT K P w) (tCons te tNil)) tNil)) r (fun z => ∃ rows' : List Ent, z = rows'.map rowD ∧ (∀ r, r ∈ rows' ↔ r ∈ rows) ∧ rows'.length < 64) := by
  rw [rows_ent] at h
  refine (eo_sortSet 3 h (by rw [List.length_map]; exact hf) (by decide) fun k hk => ?_).imp fun z ⟨ks', e, h1, h2, h3, _⟩ => ?_
  · obtain ⟨r, hr, rfl⟩ := List.mem_map.mp hk
    obtain ⟨a, b, c⟩ := hl r hr
    refine ⟨rfl, fun i hi => ?_⟩
    unfold entI at hi
    simp at hi
    rcases hi with rfl | rfl | rfl <;> omega
  · obtain ⟨rows', rfl⟩ := ent_back fun k hk => (h1 k).mp hk
    refine ⟨rows', by rw [e, rows_ent], fun r => ?_, by rw [List.length_map] at h3; exact h3⟩
    rw [← mem_ent, h1, mem_ent]
theorem wipeR_1 {r : Rho} {i : Nat} : wipeR r [i] = r.set i none := rfl
theorem cl_Rooted (T : Bl K w mg C aW aP) (cR : Mt P w K mg base 1 C "root" (PClosingRoot K C)) (d : Dm K C "rooted" "Closing.rooted" sClosingRooted ["self"]) : Mt P w K mg base 2 C "rooted" (PClosingRooted K C) := by
  obtain ⟨f, fd, c, me, F, b⟩ := d.ex
  refine ⟨f, fd, _, c, me, F.ok scClosingRooted (fun vs H Q E h => ?_) (fun cdv A outer s H vs Q E hr h => ?_), b⟩
  · obtain ⟨S, p, dx, e, r, el, rows, rfl, _⟩ := h
    rfl
  · obtain ⟨S, p, dx, e, r, el, rows, rfl, hs, hc, hd, hro, h8, hf, q⟩ := h
    refine ⟨_, dvClosingRooted T cR (by omega) hr, ?_⟩
    have f0 : Fit K C (vw S H p e r) H (L2.start NClosingRooted [.ref p]) [some (.clo ⟨el, rows⟩), none, none] :=
      .it rfl hc.clo (.no (.no .nil))
    have st := f0.st (vw_sh hs)
    have lst : EvX K C none (tLc (iList K (tFld K (tVar 0) "rows")) (gName 1) tYes (tCB (rTupOf K) (tCons (tLc (iTup K (tVar 1)) (gName 2) tYes (tMeth C "root" (PClosingRoot K C) [] L2.E0 (tVar 0) (tCons (tVar 2) tNil)) [2]) tNil)) [1]) [some (.clo ⟨el, rows⟩), none, none] (fun z => z = .d (.list ((rows.map (img (rtE el))).map rowD))) := by
      refine (er_ownD (eo_lcM (rootRowD el) (it_list (er_rows T.cl T.nR (er_var rfl rfl))) (by rw [List.length_map]; show rows.length < _; omega) fun i d hd' => ?_)).is (by
        rw [List.map_map, List.map_map]
        exact congrArg (fun l => Sh.d (.list l)) (List.map_congr_left fun r _ => rootRow_eq el r))
      rw [List.getElem?_map] at hd'
      cases hg : rows[i]? with
      | none =>
        rw [hg] at hd'
        cases hd'
      | some rw' =>
        rw [hg] at hd'
        cases hd'
        obtain ⟨l1, l2, l3⟩ := hro _ (List.mem_of_getElem? hg)
        refine ⟨_, _, gt_nameD, fun _ h => h, ?_⟩
        refine (er_cb (ea_cons (er_ownD (eo_lcM (rootD el) (it_tup (ds := [natD rw'.1, natD rw'.2.1, natD rw'.2.2]) (er_var rfl rfl)) (show 3 < 100000 by decide) fun j d hd2 => ?_)) ea_nil) rxa_tupL).is rfl
        refine ⟨_, _, gt_nameD, fun _ h => h, ?_⟩
        have key : ∀ x : Nat, d = natD x → x < el.length → EvX K C none (tMeth C "root" (PClosingRoot K C) [] L2.E0 (tVar 0) (tCons (tVar 2) tNil)) [some (.clo ⟨el, rows⟩), some (.d (rowD rw')), some (.d d)] (fun z => z = .d (rootD el d)) := fun x ed hx => by
          subst ed
          refine (er_root (c := ⟨el, rows⟩) hd hx (er_var rfl rfl) (er_var rfl rfl)).is ?_
          show Sh.d (natD (rtE el x)) = Sh.d (natD (rtE el (x : Int).toNat))
          rw [Int.toNat_natCast]
        match j, hd2 with
        | 0, hd2 =>
          cases hd2
          exact key _ rfl l1
        | 1, hd2 =>
          cases hd2
          exact key _ rfl l2
        | 2, hd2 =>
          cases hd2
          exact key _ rfl l3
        | j + 3, hd2 => exact absurd hd2 (by simp)
    refine eo_sortRows (n := el.length) lst (fun r' hr' => ?_) (by omega) (by rw [List.length_map]; exact hf) _ _ _ _ _ st _ fun l vs xs S1 H1 ⟨rows', e1, h1, h2⟩ hn st1 hS1 hH1 hd1 => ?_
    · obtain ⟨r0, m0, rfl⟩ := List.mem_map.mp hr'
      obtain ⟨a1, a2, a3⟩ := hro r0 m0
      exact ⟨rtE_lt hd a1, rtE_lt hd a2, rtE_lt hd a3⟩
    · subst e1
      rw [rows_ent] at hd1
      have bk := hc.back st1
      refine q l vs rows' _ H1 bk hn ?_ hH1 (by rw [rows_ent]; exact dpa_tupD (hc.tups st1) hd1) (fun r' => ?_) h2
      · show unv S1 p e r l = none
        unfold unv
        split
        · rfl
        · exact hS1
      · rw [h1]
        constructor
        · intro hm
          obtain ⟨r0, m0, e0⟩ := List.mem_map.mp hm
          exact ⟨r0, m0, e0.symm⟩
        · intro ⟨r0, m0, e0⟩
          exact List.mem_map.mpr ⟨r0, m0, e0.symm⟩
end
end RD

end
section
set_option linter.all false
set_option maxRecDepth 100000
set_option maxHeartbeats 4000000
/-! C2: is_joined. -/
namespace RD
open PySem PySem.Spec PyProof.Rows L2
section
variable {P : Program} {w : World} {K : PySem.W.Frag} {mg : Str → Option Value} {base : Heap} {C aW aP : Addr} {m : Option Addr} {r : Rho} {ta te : TE}
def kk (a b : Nat) : List Key := [.inl (a : Int), .inl (b : Int)]
theorem kk_inj {a b c d : Nat} (h : kk a b = kk c d) : a = c ∧ b = d := by
  unfold kk at h
  simp at h
  omega
theorem cl_IsJoined (T : Bl K w mg C aW aP) (cR : Mt P w K mg base 1 C "root" (PClosingRoot K C)) (cJ : Mt P w K mg base 2 C "join" (PClosingJoin K C)) (d : Dm K C "is_joined" "Closing.is_joined" sClosingIsJoined ["self", "places"]) : Mt P w K mg base 3 C "is_joined" (PClosingIsJoined K C) := by
  obtain ⟨f, fd, cls, me, F, bi⟩ := d.ex
  refine ⟨f, fd, _, cls, me, F.ok scClosingIsJoined (fun vs H Q E h => ?_) (fun cdv A outer s H vs Q E hr h => ?_), bi⟩
  · obtain ⟨S, p, dx, e, r, el, rows, v, wd, rfl, _⟩ := h
    rfl
  · obtain ⟨S, p, dx, e, r, el, rows, v, wd, rfl, hs, hc, hv, hd, hro, hf, q⟩ := h
    refine ⟨_, dvClosingIsJoined T cR (by omega) cJ (by omega) hr, ?_⟩
    intro fdp hfd
    refine ⟨_, _, rfl, ?_⟩
    have hS0 : S fdp = none := none_S hs hfd
    have hH0 : Same S (upd H fdp (.dT [])) := fun b o z => by
      rw [upd_ne (ne_of_none z hS0)]
      exact hs b o z
    have nfp : fdp ≠ p ∧ fdp ≠ e ∧ fdp ≠ r := by
      obtain ⟨n1, n2, n3⟩ := hc.nz
      exact ⟨fun z => n1 (z ▸ hfd), fun z => n2 (z ▸ hfd), fun z => n3 (z ▸ hfd)⟩
    have sd0 : StD (fun a => a = e) S H S (upd H fdp (.dT [])) := StD.of (Stp.lay (m := none) hs hfd)
    have hc0 : RawC K C S (upd H fdp (.dT [])) p dx e r el rows := hc.step (StD.of (D := fun _ => False) (Stp.lay (m := none) hs hfd)) (fun z => z) (fun z => z) (fun z => z)
    obtain ⟨vs0, hv0, _⟩ := hc0.hr
    refine ⟨.ref p, rfl, p, C, dx, _, .ref r, rfl, hc0.hp, T.cl, T.nR, rfl, r, rfl, ⟨vs0, .inl (.inl hv0)⟩, ?_⟩
    refine ⟨fun i m σ H' => m = rows.length - i ∧ i ≤ rows.length ∧ ∃ (S' : Hp) (el' : List Nat) (b : Bool) (g : Nat → Nat → Option Nat) (kvs : List (List Key × V)) (y4 y5 : Option V), σ = [some (.ref p), some v, some (.ref fdp), some (.bl b), y4, y5] ∧ StD (fun a => a = e) S H S' H' ∧
      RawC K C S' H' p dx e r el' rows ∧ S' fdp = none ∧ H' fdp = some (.dT kvs) ∧ (∀ k0 k1, valV kvs (kk k0 k1) = (g k0 k1).map nV) ∧ kvs.length ≤ i ∧ JS wd rows el i el' b g,
      ⟨_, rfl, Nat.zero_le _, S, el, false, fun _ _ => none, [], none, none, rfl, sd0, hc0, hS0, upd_same, fun _ _ => rfl, Nat.le_refl _, js_start hd⟩, ?_⟩
    rintro i m σ H' ⟨rfl, hi, S', el', b, g, kvs, y4, y5, rfl, sd, hc', hSf, hHf, hkv, hkl, js⟩
    obtain ⟨vs1, hv1, hd1⟩ := hc'.hr
    have lvs : vs1.length = rows.length := by rw [dpa_len hd1, List.length_map]
    by_cases hlt : i < rows.length
    · have hrow : rows[i]? = some rows[i] := List.getElem?_eq_getElem hlt
      obtain ⟨vr, gvr, dvr⟩ := dpa_get hd1 (i := i) (d := rowD rows[i]) (by rw [List.getElem?_map, hrow] <;> rfl)
      have hvp : Dp K S' v (placesD wd) := dp_mono sd.ss hv
      obtain ⟨l0, l1, l2⟩ := pl_lt (hro _ (List.getElem_mem hlt)) wd
      refine .inr ⟨⟨vs1, vr, .inl (.inl hv1), gvr⟩, fun σ2 H2 => ∃ (S' : Hp) (el' : List Nat) (b : Bool) (g : Nat → Nat → Option Nat) (kvs : List (List Key × V)) (y4 y5 : Option V), σ2 = [some (.ref p), some v, some (.ref fdp), some (.bl b), y4, y5] ∧ StD (fun a => a = e) S H S' H2 ∧
        RawC K C S' H2 p dx e r el' rows ∧ S' fdp = none ∧ H2 fdp = some (.dT kvs) ∧ (∀ k0 k1, valV kvs (kk k0 k1) = (g k0 k1).map nV) ∧ kvs.length ≤ i + 1 ∧ JS wd rows el (i + 1) el' b g, fun σ2 H2 z => ⟨rows.length - (i + 1), by omega, rfl, hlt, z⟩, fun x H'' hy => ?_⟩
      obtain ⟨rfl, hx⟩ := hy
      have ex := hx vs1 (.inl (.inl hv1))
      rw [gvr] at ex
      cases ex
      -- key = (.., ..)
      have f0 : Fit K C (vw S' H'' p e r) H'' [some (.ref p), some v, some (.ref fdp), some (.bl b), some vr, y5] [some (.clo ⟨el', rows⟩), some (.d (placesD wd)), none, none, some (.d (rowD rows[i])), none] :=
        .it rfl hc'.clo (.it rfl (dp_mono hc'.vs hvp) (.no (.no (.it rfl (dp_mono hc'.vs dvr) (.no .nil)))))
      have st := f0.st (vw_sh sd.sh)
      have hkey : EvA K C none (tCons (tMeth C "root" (PClosingRoot K C) [] L2.E0 (tVar 0) (tCons (tOp (rIx K) (tVar 4) (tOp (rIx K) (tVar 1) (tC (.int 0)))) tNil)) (tCons (tMeth C "root" (PClosingRoot K C) [] L2.E0 (tVar 0) (tCons (tOp (rIx K) (tVar 4) (tOp (rIx K) (tVar 1) (tC (.int 1)))) tNil)) tNil)) [some (.clo ⟨el', rows⟩), some (.d (placesD wd)), none, none, some (.d (rowD rows[i])), none] (fun z => z = [.d (natD (rtE el' (pl wd rows[i]).1)), .d (natD (rtE el' (pl wd rows[i]).2.1))]) :=
        ea_cons (er_root (c := ⟨el', rows⟩) js.down (show (pl wd rows[i]).1 < el'.length by rw [js.len]; exact l0) (er_var rfl rfl) (er_pl0 (v := wd) (e := rows[i]) (er_var rfl rfl) (er_var rfl rfl))) (ea_cons (er_root (c := ⟨el', rows⟩) js.down (show (pl wd rows[i]).2.1 < el'.length by rw [js.len]; exact l1) (er_var rfl rfl) (er_pl1 (v := wd) (e := rows[i]) (er_var rfl rfl) (er_var rfl rfl))) ea_nil)
      dsimp only [gName, tSeq, tAsg, tTup, List.set]
      refine hkey _ _ _ _ _ st _ fun us ss S1 H1 es st1 hus => ?_
      subst es
      cases hus with
      | cons hu1 ht =>
        cases ht with
        | cons hu2 ht2 =>
          cases ht2
          have hu1' : Dp K S1 _ (natD (rtE el' (pl wd rows[i]).1)) := hu1
          have hu2' : Dp K S1 _ (natD (rtE el' (pl wd rows[i]).2.1)) := hu2
          cases hu1'
          cases hu2'
          have bk := hc'.back st1
          refine ⟨(show 2 ≤ sizeLine by decide), fun kb hkb => ?_⟩
          -- behind the key
          have sk : StD (fun _ => False) (unv S1 p e r) H1 (unv S1 p e r) (upd H1 kb (.tup [nV (rtE el' (pl wd rows[i]).1), nV (rtE el' (pl wd rows[i]).2.1)])) := StD.of (Stp.lay (m := none) bk.sh hkb)
          have s1 := bk.trans sk
          have hc1 := hc'.step s1 (fun z => z) (fun z => z) (fun z => z)
          have hHf1 : upd H1 kb (.tup [nV (rtE el' (pl wd rows[i]).1), nV (rtE el' (pl wd rows[i]).2.1)]) fdp = some (.dT kvs) := s1.hh _ _ (fun z => z) hHf
          have hSf1 : unv S1 p e r fdp = none := (s1.old fdp (by rw [hHf]; exact fun z => nomatch z)).trans hSf
          have dvp1 : Dp K (unv S1 p e r) v (placesD wd) := dp_mono s1.ss hvp
          have dvr1 : Dp K (unv S1 p e r) vr (rowD rows[i]) := dp_mono s1.ss dvr
          have hget : ∀ o : Option V, valV kvs (kk (rtE el' (pl wd rows[i]).1) (rtE el' (pl wd rows[i]).2.1)) = o → DGet (upd H1 kb (.tup [nV (rtE el' (pl wd rows[i]).1), nV (rtE el' (pl wd rows[i]).2.1)])) fdp (.ref kb) o := fun o eo => by
            rw [← eo]
            exact DGet.t (k := kk (rtE el' (pl wd rows[i]).1) (rtE el' (pl wd rows[i]).2.1)) hHf1 upd_same
          refine ⟨.ref kb, rfl, .ref fdp, rfl, fdp, _, rfl, hget _ (hkv _ _), ?_⟩
          have f1 : Fit K C (unv S1 p e r) (upd H1 kb (.tup [nV (rtE el' (pl wd rows[i]).1), nV (rtE el' (pl wd rows[i]).2.1)])) [some (.ref p), some v, some (.ref fdp), some (.bl b), some vr, some (.ref kb)] [none, some (.d (placesD wd)), none, none, some (.d (rowD rows[i])), none] :=
            .no (.it rfl dvp1 (.no (.no (.it rfl dvr1 (.no .nil)))))
          have third := er_pl2 (K := K) (C := C) (m := none) (r := [none, some (.d (placesD wd)), none, none, some (.d (rowD rows[i])), none]) (ta := tVar 4) (tb := tVar 1) (v := wd) (e := rows[i]) (er_var rfl rfl) (er_var rfl rfl)
          have st1' := f1.st s1.sh
          cases hg : g (rtE el' (pl wd rows[i]).1) (rtE el' (pl wd rows[i]).2.1) with
          | none =>
            refine ⟨true, rfl, iteT ?_⟩
            refine third _ _ _ _ _ st1' _ fun v2 s2 S2 H2 e2 st2 hv2 => ?_
            subst e2
            have hv2' : Dp K S2 v2 (natD (pl wd rows[i]).2.2) := hv2
            cases hv2'
            have b2 : StD (fun _ => False) (unv S1 p e r) _ S2 H2 := StD.of st2
            have hHf2 : H2 fdp = some (.dT kvs) := b2.hh _ _ (fun z => z) hHf1
            have hSf2 : S2 fdp = none := (b2.old fdp (by rw [hHf1]; exact fun z => nomatch z)).trans hSf1
            have hkb2 : H2 kb = _ := b2.hh _ _ (fun z => z) upd_same
            refine ⟨.ref fdp, rfl, .ref kb, rfl, fdp, _, rfl, DPut.t (k := kk (rtE el' (pl wd rows[i]).1) (rtE el' (pl wd rows[i]).2.1)) hHf2 hkb2 (Nat.lt_of_le_of_lt (Nat.le_trans hkl hi) (sz_lt (by omega))), ?_⟩
            have s2 := s1.trans b2
            have s3 : StD (fun a => a = fdp) S' H'' S2 (upd H2 fdp (.dT (putK kvs (kk (rtE el' (pl wd rows[i]).1) (rtE el' (pl wd rows[i]).2.1)) (nV (pl wd rows[i]).2.2)))) :=
              (s2.wide fun _ z => z.elim).trans (StD.chg b2.sh rfl hSf2 (by rw [hHf2]; exact fun z => nomatch z))
            have hbase : StD (fun a => a = e) S H S2 (upd H2 fdp (.dT (putK kvs (kk (rtE el' (pl wd rows[i]).1) (rtE el' (pl wd rows[i]).2.1)) (nV (pl wd rows[i]).2.2)))) := by
              have t1 := sd.trans (s2.wide fun _ z => z.elim)
              refine ⟨t1.ss, s3.sh, fun a o hna ha => ?_, t1.old, fun a ha => ?_⟩
              · rw [upd_ne (fun z : a = fdp => by rw [z, hfd] at ha; cases ha)]
                exact t1.hh a o hna ha
              · rw [upd_ne (fun z : a = fdp => ha (by rw [z]; exact hfd))]
                exact t1.dom a ha
            refine ⟨S2, el', b, _, _, _, _, rfl, hbase, hc'.step s3 (fun z => nfp.1 z.symm) (fun z => nfp.2.1 z.symm) (fun z => nfp.2.2 z.symm), hSf2, upd_same, fun k0 k1 => ?_, ?_, js_put js hrow hg⟩
            · rw [valV_put]
              by_cases z : k0 = rtE el' (pl wd rows[i]).1 ∧ k1 = rtE el' (pl wd rows[i]).2.1
              · rw [if_pos z, if_pos (by rw [z.1, z.2])] <;> rfl
              · rw [if_neg z, if_neg (fun y => z (kk_inj y)), hkv]
            · exact Nat.le_trans (length_putK _ _ _) (Nat.succ_le_succ hkl)
          | some vv =>
            refine ⟨false, rfl, iteF ?_⟩
            refine ⟨.ref p, rfl, p, dx, _, rfl, hc1.hp, rfl, .ref fdp, rfl, .ref kb, rfl, fdp, nV vv, rfl, hget _ (by rw [hkv, hg]; rfl), ?_⟩
            refine third _ _ _ _ _ st1' _ fun v2 s2 S2 H2 e2 st2 hv2 => ?_
            subst e2
            have hv2' : Dp K S2 v2 (natD (pl wd rows[i]).2.2) := hv2
            cases hv2'
            have b2 : StD (fun _ => False) (unv S1 p e r) _ S2 H2 := StD.of st2
            have hHf2 : H2 fdp = some (.dT kvs) := b2.hh _ _ (fun z => z) hHf1
            have hSf2 : S2 fdp = none := (b2.old fdp (by rw [hHf1]; exact fun z => nomatch z)).trans hSf1
            have hc2 := hc1.step b2 (fun z => z) (fun z => z) (fun z => z)
            obtain ⟨lv, js'⟩ := js_join js hd (fun r' hr' => (pl_lt (hro r' hr') wd).2.2) hrow hg
            refine ⟨S2, p, dx, e, r, el', rows, vv, (pl wd rows[i]).2.2, rfl, b2.sh, hc2, js.down, lv, (by rw [js.len]; exact l2), fun S3 H3 sd3 he3 => ?_⟩
            have hc3 := hc2.stepE sd3 he3
            have hHf3 : H3 fdp = some (.dT kvs) := sd3.hh _ _ nfp.2.1 hHf2
            have hSf3 : S3 fdp = none := (sd3.old fdp (by rw [hHf2]; exact fun z => nomatch z)).trans hSf2
            have tot := sd.trans (((s1.trans b2).wide fun _ z => z.elim).trans sd3)
            refine ⟨_, rfl, ?_⟩
            by_cases z : rtE el' vv = rtE el' (pl wd rows[i]).2.2
            · rw [decide_eq_false (fun y => y z)]
              refine iteF ⟨S3, _, _, _, kvs, some vr, some (.ref kb), ?_, tot, hc3, hSf3, hHf3, hkv, by omega, js'⟩
              rw [decide_eq_false (fun y => y z), Bool.or_false]
            · rw [decide_eq_true z]
              refine iteT ⟨S3, _, _, _, kvs, some vr, some (.ref kb), ?_, tot, hc3, hSf3, hHf3, hkv, by omega, js'⟩
              rw [decide_eq_true z, Bool.or_true] <;> rfl
    · have ei : i = rows.length := by omega
      subst ei
      refine .inl ⟨⟨vs1, .inl (.inl hv1), by omega⟩, ?_⟩
      exact ⟨.bl b, rfl, q S' H' el' b sd hc'.he (js_end js)⟩
end
end RD

end
section
set_option linter.all false
set_option maxRecDepth 100000
set_option maxHeartbeats 4000000
/-! C3: settle, __init__, closing_of. -/
namespace RD
open PySem PySem.Spec PyProof.Rows L2
def wdI : Nat → Wd
  | 0 => .wi
  | 1 => .be
  | _ => .ah
def wdKeys : List V := [.str "with", .str "behind", .str "ahead"]
theorem wdI_key {i : Nat} {x : V} (h : wdKeys[i]? = some x) : x = .str (wdI i).s := by
  match i, h with
  | 0, h => cases h; rfl
  | 1, h => cases h; rfl
  | 2, h => cases h; rfl
  | i + 3, h => exact absurd h (by simp [wdKeys])
def CloW (w : Wd) (rows : List Ent) (el : List Nat) : Prop := ∀ r ∈ rows, ∀ r' ∈ rows, rtE el (pl w r).1 = rtE el (pl w r').1 → rtE el (pl w r).2.1 = rtE el (pl w r').2.1 → rtE el (pl w r).2.2 = rtE el (pl w r').2.2
section
variable {P : Program} {w : World} {K : PySem.W.Frag} {mg : Str → Option Value} {base : Heap} {C aW aP : Addr}
theorem putF_rows {e r l : Addr} : putF "rows" (.ref l) [(("elder" : Str), V.ref e), (("rows" : Str), V.ref r)] = [(("elder" : Str), V.ref e), (("rows" : Str), V.ref l)] := by
  simp only [putF]
  rw [if_neg (by decide +kernel), if_pos (by decide +kernel)]
/-- self.rows = self.rooted() -/
theorem rooted_fld (T : Bl K w mg C aW aP) {D : Ends} {S H : Hp} {p dx e r : Addr} {el : List Nat} {rows : List Ent} {y : Option V} (hs : Same S H) (hc : RawC K C S H p dx e r el rows) (hd : Down el) (hro : RowsOk el.length rows) (h8 : el.length ≤ 8) (hf : rows.length < 64)
    (k : ∀ (l : Addr) (rows' : List Ent) (S' H' : Hp), StD (fun a => a = p) S H S' H' → RawC K C S' H' p dx e l el rows' → H l = none → (∀ r', r' ∈ rows' ↔ ∃ r ∈ rows, r' = img (rtE el) r) → rows'.length < 64 → D.nx [some (.ref p), y] H') :
    sFld K (tVar 0) (tMeth C "rooted" (PClosingRooted K C) [] L2.E0 (tVar 0) tNil) "rows" D [some (.ref p), y] H := by
  refine ⟨.ref p, rfl, p, dx, _, rfl, hc.hp, rfl, S, p, dx, e, r, el, rows, rfl, hs, hc, hd, hro, h8, hf, fun l vs rows' S' H' sd hl hSl hHl hdl hm hf' => ?_⟩
  have hc' := hc.step sd (fun z => z) (fun z => z) (fun z => z)
  refine ⟨.ref p, rfl, p, C, dx, _, rfl, hc'.hp, T.cl, T.nR, (show 2 < 1000 by decide), ?_⟩
  rw [putF_rows]
  have lne : l ≠ p ∧ l ≠ e := ⟨fun z => hc.nz.1 (z ▸ hl), fun z => hc.nz.2.1 (z ▸ hl)⟩
  have s2 : StD (fun a => a = p) S' H' S' (upd H' p (.ins C dx [("elder", .ref e), ("rows", .ref l)])) := StD.chg sd.sh rfl hc'.sp hc'.nz.1
  exact k l rows' S' _ ((sd.wide fun _ z => z.elim).trans s2) ⟨upd_same, (by rw [upd_ne hc'.pe.symm]; exact hc'.he), ⟨vs, (by rw [upd_ne lne.1]; exact hHl), hdl⟩, lne.2.symm, hc'.sp, hc'.se, hSl⟩ hl hm hf'
theorem any_bl (bs : List Bool) (b : Bool) : (bs ++ [b]).any id = (bs.any id || b) := by
  rw [List.any_append]
  show (_ || (b || false)) = _
  rw [Bool.or_false]
theorem cl_Settle (T : Bl K w mg C aW aP) (hK : KKeys K aP wdKeys) (cO : Mt P w K mg base 2 C "rooted" (PClosingRooted K C)) (cI : Mt P w K mg base 3 C "is_joined" (PClosingIsJoined K C)) (d : Dm K C "settle" "Closing.settle" sClosingSettle ["self"]) : Mt P w K mg base 4 C "settle" (PClosingSettle K C) := by
  obtain ⟨f, fd, cls, me, F, bi⟩ := d.ex
  refine ⟨f, fd, _, cls, me, F.ok scClosingSettle (fun vs H Q E h => ?_) (fun cdv A outer s H vs Q E hr h => ?_), bi⟩
  · obtain ⟨S, p, dx, e, r, n, es, el, rows, rfl, _⟩ := h
    rfl
  · obtain ⟨S, p, dx, e, r, n, es, el, rows, rfl, hs, hc, hss, h8, q⟩ := h
    refine ⟨_, dvClosingSettle T cO (by omega) cI (by omega) hr, ?_⟩
    refine ⟨fun m σ H' => ∃ (y : Option V) (S' : Hp) (r' : Addr) (el' : List Nat) (rows' : List Ent), σ = [some (.ref p), y] ∧ m = cnt el' ∧ StD (fun a => a = e ∨ a = p) S H S' H' ∧ RawC K C S' H' p dx e r' el' rows' ∧ SS n es el' rows', ⟨_, none, S, r, el, rows, rfl, rfl, StD.refl hs, hc, hss⟩, ?_⟩
    rintro m σ H' ⟨y, S', r', el', rows', rfl, rfl, sd, hc', hss'⟩
    dsimp only [tB, tCB, tCons, tNil, tLc, iKKeys, tC]
    refine ⟨aP, wdKeys, rfl, hK, fun L hL => ?_⟩
    have hSL : S' L = none := none_S sd.sh hL
    have nL : L ≠ p ∧ L ≠ e ∧ L ≠ r' := by
      obtain ⟨n1, n2, n3⟩ := hc'.nz
      exact ⟨fun z => n1 (z ▸ hL), fun z => n2 (z ▸ hL), fun z => n3 (z ▸ hL)⟩
    have sl : StD (fun _ => False) S' H' S' (upd H' L (.lst [])) := StD.of (Stp.lay (m := none) sd.sh hL)
    refine ⟨fun i m H'' => m = 3 - i ∧ i ≤ 3 ∧ ∃ (S'' : Hp) (el'' : List Nat) (bs : List Bool), StD (fun a => a = e) S' H' S'' H'' ∧ RawC K C S'' H'' p dx e r' el'' rows' ∧ S'' L = none ∧ H'' L = some (.lst (bs.map V.bl)) ∧ bs.length = i ∧ SS n es el'' rows' ∧
      (bs.any id = false → el'' = el' ∧ ∀ j, j < i → CloW (wdI j) rows' el') ∧ (bs.any id = true → cnt el'' < cnt el') ∧ cnt el'' ≤ cnt el',
      ⟨3, rfl, by decide, S', el', [], sl.wide fun _ z => z.elim, hc'.step sl (fun z => z) (fun z => z) (fun z => z), hSL, upd_same, rfl, hss', fun _ => ⟨rfl, fun j hj => absurd hj (Nat.not_lt_zero _)⟩, fun z => (nomatch z), Nat.le_refl _⟩, ?_⟩
    rintro i m H'' ⟨rfl, hi, S'', el'', bs, sd2, hc2, hS2, hH2, hbl, hss2, hb0, hb1, hle⟩
    by_cases hlt : i < 3
    · refine .inr ⟨hlt, fun H'' => ∃ (S'' : Hp) (el'' : List Nat) (bs : List Bool), StD (fun a => a = e) S' H' S'' H'' ∧ RawC K C S'' H'' p dx e r' el'' rows' ∧ S'' L = none ∧ H'' L = some (.lst (bs.map V.bl)) ∧ bs.length = i + 1 ∧ SS n es el'' rows' ∧
        (bs.any id = false → el'' = el' ∧ ∀ j, j < i + 1 → CloW (wdI j) rows' el') ∧ (bs.any id = true → cnt el'' < cnt el') ∧ cnt el'' ≤ cnt el', fun H3 z => ⟨3 - (i + 1), by omega, rfl, hlt, z⟩, fun x H3 hy => ?_⟩
      obtain ⟨rfl, hx⟩ := hy
      have ex := wdI_key hx
      subst ex
      dsimp only [gName, L2.wipe, List.set, tYes]
      refine ⟨rfl, iteT ?_⟩
      obtain ⟨z, hz1, hz2⟩ := T.places (wdI i)
      refine ⟨.ref p, rfl, p, dx, _, rfl, hc2.hp, rfl, _, rfl, aP, (wdI i).s, z, rfl, rfl, hz1, S'', p, dx, e, r', el'', rows', z, wdI i, rfl, sd2.sh, hc2, dp_none hz2, hss2.down, (by rw [hss2.len]; exact hss2.lt), hss2.few, fun S4 H4 el4 b4 sd4 he4 jr => ?_⟩
      have hc4 := hc2.stepE sd4 he4
      have hS4 : S4 L = none := (sd4.old L (by rw [hH2]; exact fun z => nomatch z)).trans hS2
      have hH4 : H4 L = some (.lst (bs.map V.bl)) := sd4.hh _ _ nL.2.1 hH2
      refine ⟨_, hH4, (by rw [List.length_map, hbl]; exact Nat.lt_trans hlt (by decide)), ?_⟩
      have s5 : StD (fun a => a = L) S4 H4 S4 (upd H4 L (.lst (bs.map V.bl ++ [.bl b4]))) := StD.chg sd4.sh rfl hS4 (by rw [hH4]; exact fun z => nomatch z)
      have t1 := sd2.trans sd4
      have base5 : StD (fun a => a = e) S' H' S4 (upd H4 L (.lst (bs.map V.bl ++ [.bl b4]))) := by
        refine ⟨t1.ss, s5.sh, fun a o hna ha => ?_, t1.old, fun a ha => ?_⟩
        · rw [upd_ne (fun z : a = L => by rw [z, hL] at ha; cases ha)]
          exact t1.hh a o hna ha
        · rw [upd_ne (fun z : a = L => ha (by rw [z]; exact hL))]
          exact t1.dom a ha
      refine ⟨S4, el4, bs ++ [b4], base5, hc4.step s5 (fun z => nL.1 z.symm) (fun z => nL.2.1 z.symm) (fun z => nL.2.2 z.symm), hS4, ?_, by rw [List.length_append, hbl]; rfl, hss2.join jr, fun hb => ?_, fun hb => ?_, ?_⟩
      · rw [List.map_append]
        exact upd_same
      · rw [any_bl, Bool.or_eq_false_iff] at hb
        obtain ⟨h1, h2⟩ := hb0 hb.1
        subst h1
        have e4 := jr.same hb.2
        subst e4
        refine ⟨rfl, fun j hj => ?_⟩
        by_cases z : j = i
        · rw [z]
          exact jr.cl hb.2
        · exact h2 j (by omega)
      · rw [any_bl] at hb
        cases hb4 : b4 with
        | true =>
          have := jr.lt hb4
          omega
        | false =>
          rw [hb4, Bool.or_false] at hb
          rw [jr.same hb4]
          exact hb1 hb
      · cases hb4 : b4 with
        | true =>
          have := jr.lt hb4
          omega
        | false =>
          rw [jr.same hb4]
          exact hle
    · have ei : i = 3 := by omega
      subst ei
      refine .inl ⟨rfl, L, bs, rfl, .inl (.inl hH2), bs.any id, rfl, ?_⟩
      have t2 := sd.trans (sd2.wide fun _ z => .inl z)
      cases hb : bs.any id with
      | true =>
        refine iteT ⟨fun σ H3 => ∃ (y : Option V) (S' : Hp) (r' : Addr) (el3 : List Nat) (rows' : List Ent), σ = [some (.ref p), y] ∧ cnt el3 < cnt el' ∧ StD (fun a => a = e ∨ a = p) S H S' H3 ∧ RawC K C S' H3 p dx e r' el3 rows' ∧ SS n es el3 rows', fun σ H3 ⟨y, S3, r3, el3, rows3, e1, e2, e3⟩ => ⟨cnt el3, e2, y, S3, r3, el3, rows3, e1, rfl, e3⟩, ?_⟩
        refine rooted_fld T sd2.sh hc2 hss2.down (by rw [hss2.len]; exact hss2.lt) (by rw [hss2.len]; exact h8) hss2.few fun l rows3 S3 H3 sd3 hc3 _ hm hf3 => ?_
        exact ⟨y, S3, l, el'', rows3, rfl, hb1 hb, t2.trans (sd3.wide fun _ z => .inr z), hc3, hss2.root hm hf3⟩
      | false =>
        refine iteF ?_
        obtain ⟨h1, h2⟩ := hb0 hb
        subst h1
        refine rooted_fld T sd2.sh hc2 hss2.down (by rw [hss2.len]; exact hss2.lt) (by rw [hss2.len]; exact h8) hss2.few fun l rows3 S3 H3 sd3 hc3 hl hm hf3 => ?_
        have hcl : Closed rows' (rtE el'') := fun wd r1 hr1 r2 hr2 e1 e2 => by
          cases wd
          · exact h2 0 (by decide) r1 hr1 r2 hr2 e1 e2
          · exact h2 1 (by decide) r1 hr1 r2 hr2 e1 e2
          · exact h2 2 (by decide) r1 hr1 r2 hr2 e1 e2
        obtain ⟨g1, g2⟩ := hss2.fin hcl hm
        have tot := t2.trans (sd3.wide fun _ z => .inr z)
        refine q S3 H3 l el'' rows3 tot hc3 ?_ hss2.down hss2.len g1 g2
        cases hz : H l with
        | none => rfl
        | some o => exact absurd hl (t2.dom l (by rw [hz]; exact fun z => nomatch z))
theorem cl_Init (T : Bl K w mg C aW aP) (cS : Mt P w K mg base 4 C "settle" (PClosingSettle K C)) {f : Addr} {fd : FuncData} (F : L2.Fun K "__init__" "Closing.__init__" sClosingInit f fd) (hM : Mk K C f) (hC : mg "Closing" = some (.ref C)) (hb : Binds K fd ["self", "many", "entries"] []) : Mkr P w K mg base 5 "Closing" C (PClosing K C) := by
  refine ⟨f, fd, _, hM, F.ok scClosingInit (fun vs H Q E h => ?_) (fun cdv A outer s H vs Q E hr h => ?_), hC, hb⟩
  · obtain ⟨S, p, dx, v, n, es, rfl, _⟩ := h
    rfl
  · obtain ⟨S, p, dx, v, n, es, rfl, hs, hp, hSp, hv, hro, h8, hf, q⟩ := h
    refine ⟨_, dvClosingInit T cS (by omega) hr, ?_⟩
    refine ⟨nV n, rfl, n, rfl, RgOk.of_le (by decide) (by omega) (by decide) (by omega), fun e he => ?_⟩
    have hSe : S e = none := none_S hs he
    have nep : e ≠ p := fun z => by rw [z, hp] at he; cases he
    have s1 : StD (fun a => a = p) S H S (upd H e (.lst (rgV 0 n))) := StD.of (Stp.lay (m := none) hs he)
    have hp1 : upd H e (.lst (rgV 0 n)) p = some (.ins C dx []) := by rw [upd_ne nep.symm]; exact hp
    refine ⟨.ref p, rfl, p, C, dx, [], rfl, hp1, T.cl, T.nE, (show 0 < 1000 by decide), ?_⟩
    have s2 := s1.trans (StD.chg (o := .ins C dx (putF "elder" (.ref e) [])) s1.sh (rfl : p = p) hSp (by rw [hp1]; exact fun z => nomatch z))
    have hv2 : Dp K S v (.tuple (es.map rowD)) := hv
    cases hv2 with
    | @tup a vs _ hq ha =>
      refine ⟨.ref a, rfl, a, vs, rfl, .inr (same_t s2.sh hq), fun l hl => ?_⟩
      have hl0 : H l = none := by
        cases hz : H l with
        | none => rfl
        | some o => exact absurd hl (s2.dom l (by rw [hz]; exact fun z => nomatch z))
      have hSl : S l = none := none_S s2.sh hl
      have hp2 : upd (upd H e (.lst (rgV 0 n))) p (.ins C dx (putF "elder" (.ref e) [])) p = some (.ins C dx [("elder", .ref e)]) := by rw [upd_same]; rfl
      have he2 : upd (upd H e (.lst (rgV 0 n))) p (.ins C dx (putF "elder" (.ref e) [])) e = some (.lst (rgV 0 n)) := by rw [upd_ne nep, upd_same]
      have nlp : l ≠ p := fun z => by rw [z, hp2] at hl; cases hl
      have nle : l ≠ e := fun z => by rw [z, he2] at hl; cases hl
      have s3 := s2.trans (StD.of (Stp.lay (m := none) (o := .lst vs) s2.sh hl))
      have hp3 : upd (upd (upd H e (.lst (rgV 0 n))) p (.ins C dx (putF "elder" (.ref e) []))) l (.lst vs) p = some (.ins C dx [("elder", .ref e)]) := by rw [upd_ne nlp.symm]; exact hp2
      refine ⟨.ref p, rfl, p, C, dx, _, rfl, hp3, T.cl, T.nR, (show 1 < 1000 by decide), ?_⟩
      have s4 := s3.trans (StD.chg (o := .ins C dx (putF "rows" (.ref l) [("elder", .ref e)])) s3.sh (rfl : p = p) hSp (by rw [hp3]; exact fun z => nomatch z))
      have eput : putF "rows" (.ref l) [(("elder" : Str), V.ref e)] = [(("elder" : Str), V.ref e), (("rows" : Str), V.ref l)] := by
        simp only [putF]
        rw [if_neg (by decide +kernel)]
      rw [eput] at s4 ⊢
      have erg : rgV 0 n = (List.range n).map nV := by
        unfold rgV
        have : ((n : Int) - 0).toNat = n := by omega
        rw [this]
        exact List.map_congr_left fun i _ => by
          show V.int (0 + (i : Int)) = V.int (i : Int)
          rw [Int.zero_add]
      have hc : RawC K C S (upd (upd (upd (upd H e (.lst (rgV 0 n))) p (.ins C dx (putF "elder" (.ref e) []))) l (.lst vs)) p (.ins C dx [("elder", .ref e), ("rows", .ref l)])) p dx e l (List.range n) es :=
        ⟨upd_same, by rw [upd_ne nep, upd_ne nle.symm, he2, erg], ⟨vs, by rw [upd_ne nlp, upd_same], ha⟩, nle.symm, hSp, hSe, hSl⟩
      refine ⟨.ref p, rfl, p, dx, _, rfl, hc.hp, rfl, S, p, dx, e, l, n, es, List.range n, es, rfl, s4.sh, hc, ss_start hro hf, h8, fun S' H' r' el' rows' sd hc' hr' hd' hl' g1 g2 => ?_⟩
      refine q S' H' e r' el' rows' ⟨s4.ss.trans sd.ss, sd.sh, fun b o hnb hb' => ?_, fun b hb' => (sd.old b (s4.dom b hb')).trans (s4.old b hb'), fun b hb' => sd.dom b (s4.dom b hb')⟩ hc' he ?_ hd' hl' g1 g2
      · refine sd.hh b o (fun z => ?_) (s4.hh b o hnb hb')
        rcases z with z | z
        · rw [z, he] at hb'; cases hb'
        · exact hnb z
      · cases hz : H r' with
        | none => rfl
        | some o => exact absurd hr' (s4.dom r' (by rw [hz]; exact fun z => nomatch z))
theorem fc_1 {fc : Fc} : atI ([natD fc.n, .tuple (fc.es.map rowD), .tuple (fc.un.map duoD)] : List PyData) 1 = some (.tuple (fc.es.map rowD)) := rfl
theorem cl_ClosingOf (T : Bl K w mg C aW aP) (cC : Mkr P w K mg base 5 "Closing" C (PClosing K C)) (d : Df K mg "closing_of" sClosingOf ["facts"]) : Cl P w K mg base 7 "closing_of" (PClosingOf K C) :=
  pd_cl d scClosingOf (fun _ => rfl) (fun _ => rfl) fun f cdv A outer s H E a hr hp => ⟨_, dvClosingOf T cC (by omega) hr, by
    have hp : FcOk a := hp
    refine ds_ret (P := fun s => ∃ c, s = .clo c ∧ IsClo a c) (fun S0 H0 σ S H st Q q => ?_) fun s e => e
    have hA : EvA K C none (tCons (tOp (rIx K) (tVar 0) (tC (.int 0))) (tCons (tOp (rIx K) (tVar 0) (tC (.int 1))) tNil)) (rho0 NClosingOf [.d a.d]) (fun z => z = [.d (natD a.n), .d (.tuple (a.es.map rowD))]) :=
      ea_cons (er_op (er_var rfl rfl) (er_int 0) (rx_ixT fc_0)) (ea_cons (er_op (er_var rfl rfl) (er_int 1) (rx_ixT fc_1)) ea_nil)
    dsimp only [tMake]
    refine hA _ _ _ _ _ st _ fun vs ss S1 H1 es st1 hvs x dx hx hdx hne => ?_
    subst es
    cases hvs with
    | cons h1 ht =>
      cases ht with
      | cons h2 hn =>
        cases hn
        have h1' : Dp K S1 _ (natD a.n) := h1
        cases h1'
        have sh1 := st1.sh
        have hSx : S1 x = none := none_S sh1 hx
        have hSd : S1 dx = none := none_S sh1 hdx
        have lay : StD (fun _ => False) S1 H1 S1 (upd (upd H1 dx (.own x)) x (.ins C dx [])) := by
          have a1 : Stp none S1 H1 S1 (upd H1 dx (.own x)) := Stp.lay sh1 hdx
          exact (StD.of a1).trans (StD.of (Stp.lay (m := none) a1.sh (by rw [upd_ne hne.symm]; exact hx)))
        refine ⟨S1, x, dx, _, a.n, a.es, rfl, lay.sh, upd_same, hSx, h2, hp.es, hp.n8, (by have := hp.el; omega), fun S' H' e r el rows sd hc he hr' hd hl g1 g2 => ⟨rfl, ?_⟩⟩
        have tot := (lay.wide fun _ (z : False) => z.elim).trans sd
        have he1 : H1 e = none := by
          cases hz : H1 e with
          | none => rfl
          | some o => exact absurd he (lay.dom e (by rw [hz]; exact fun z => nomatch z))
        have hr1 : H1 r = none := by
          cases hz : H1 r with
          | none => rfl
          | some o => exact absurd hr' (lay.dom r (by rw [hz]; exact fun z => nomatch z))
        have fin : Stp none S1 H1 (vw S' H' x e r) H' := by
          refine ⟨fun b o q => ?_, vw_sh sd.sh, fun b o _ q => ?_, fun b q => ?_, tot.dom, fun b e => (nomatch e)⟩
          · exact hc.vs b o (tot.ss b o q)
          · exact tot.hh b o (fun z : b = x => by rw [z, hx] at q; cases q) q
          · rw [vw_off fun z => ?_]
            · exact tot.old b q
            · rcases z with z | z | z
              · exact q (by rw [z]; exact hx)
              · exact q (by rw [z]; exact he1)
              · exact q (by rw [z]; exact hr1)
        exact q (.ref x) (.clo ⟨el, rows⟩) _ H' ⟨_, rfl, hd, hl, g1, g2⟩ (st1.trans fin) hc.clo⟩
end
end RD

end
section
set_option linter.all false
set_option maxRecDepth 100000
set_option maxHeartbeats 4000000
/-! X3: sorted of alike data, any number of them; own lists read; more rules. -/
namespace RD
open PySem PySem.Spec PyProof.Rows L2
def rSortedD (K : PySem.W.Frag) : List V → Hp → VK → Prop := fun xs H Q => ∃ (a : Addr) (vs : List V) (ds : List PyData), xs = [V.ref a] ∧ SqL K H a vs ∧ DpAll K H vs ds ∧ (∀ d, d ∈ ds → ∃ x r, d = PyData.tuple (x :: r)) ∧ PySem.W.AllAlike ds ∧ (∀ d, d ∈ ds → d.depth ≤ 60) ∧
  ∀ (bs : List (V × PyData)) (p : Addr), bs.Perm (vs.zip ds) → H p = none → Q (.ref p) (upd H p (.lst (bs.map (·.1))))
section
variable {X : Cx} {k : Nat}
theorem each_zip {s : Shared} : ∀ {us : List Value} {vs : List V} {ds : List PyData}, Vals vs us → vs.length = ds.length → PySem.W.EachIs (fun (u : Value) (b : V × PyData) => RelV b.1 u) us (vs.zip ds)
  | _, _, [], .nil, _ => .nil
  | _, _, d :: ds, .cons h t, e => .cons h (each_zip (s := s) t (by simpa using e))
theorem each_dp {pins : List (Addr × Obj)} {σ : L2.St} {H : Hp} {s : Shared} (I : Inv X pins σ H s) : ∀ {us : List Value} {vs : List V} {ds : List PyData}, Vals vs us → DpAll X.K H vs ds → PySem.W.EachIs (fun (u : Value) (b : V × PyData) => ∃ as, Reads s.heap u b.2 as) us (vs.zip ds)
  | _, _, [], .nil, .nil => .nil
  | _, _, d :: ds, .cons h t, .cons hd td => .cons (Dp.reads I d _ _ hd h) (each_dp I t td)
theorem vals_each : ∀ {us : List Value} {bs : List (V × PyData)}, PySem.W.EachIs (fun (u : Value) (b : V × PyData) => RelV b.1 u) us bs → Vals (bs.map (·.1)) us
  | _, _, .nil => .nil
  | _, _, .cons h t => .cons h (vals_each t)
theorem zip_mem {K : PySem.W.Frag} {H : Hp} : ∀ {vs : List V} {ds : List PyData}, DpAll K H vs ds → ∀ b ∈ vs.zip ds, Dp K H b.1 b.2
  | _, _, .nil, b, h => by cases h
  | _, _, .cons h t, b, hb => by
    rw [List.zip_cons_cons] at hb
    rcases List.mem_cons.mp hb with z | z
    · rw [z]; exact h
    · exact zip_mem t b z
theorem dpa_pairs {K : PySem.W.Frag} {H : Hp} : ∀ {bs : List (V × PyData)}, (∀ b ∈ bs, Dp K H b.1 b.2) → DpAll K H (bs.map (·.1)) (bs.map (·.2))
  | [], _ => .nil
  | b :: bs, h => .cons (h b List.mem_cons_self) (dpa_pairs fun c hc => h c (List.mem_cons_of_mem _ hc))
theorem zip_snd : ∀ {vs : List V} {ds : List PyData}, vs.length = ds.length → (vs.zip ds).map (·.2) = ds
  | [], [], _ => rfl
  | v :: vs, [], h => by cases h
  | [], d :: ds, h => by cases h
  | v :: vs, d :: ds, h => by
    rw [List.zip_cons_cons, List.map_cons, zip_snd (by simpa using h)]
theorem cr_sortedD (hr : Room k X.A) : CallR X (.builtin "sorted") (rSortedD X.K) := by
  intro pins s σ H xs us Q I r h
  obtain ⟨a, vs, ds, rfl, hs, hd, htup, hal, hdep, q⟩ := h
  obtain ⟨its, rv, hl, hz⟩ := I.list hs
  rw [Vals.ref1 r]
  have hlen : vs.length = ds.length := dpa_len hd
  have e := each_zip (s := s) rv hlen
  have ez := zip_snd hlen
  have er := each_dp I rv hd
  refine PySem.W.sorted_data (enc := fun b : V × PyData => b.2) hl.isList e er (by rw [ez]; exact hal) (by rw [ez]; exact .inl htup) (by rw [List.length_zip]; omega) (fun b hb => ?_) fun out hol hout => ?_
  · have hm : b.2 ∈ ds := by rw [← ez]; exact List.mem_map.mpr ⟨b, hb, rfl⟩
    have := hdep _ hm
    have := hr.units
    omega
  · obtain ⟨ep, he'⟩ := PyProof.Rows.sortedAll_at s.heap its out.toArray
    have hp : ((vs.zip ds).mergeSort (PySem.W.dataLe false fun b : V × PyData => b.2)).Perm (vs.zip ds) := List.mergeSort_perm _ _
    have hlen2 : (((vs.zip ds).mergeSort (PySem.W.dataLe false fun b : V × PyData => b.2)).map (·.1)).length ≤ sizeLine := by
      rw [List.length_map, hp.length_eq, List.length_zip]
      omega
    refine ⟨.ref _, upd H (s.heap.objs.size + 1) (.lst (((vs.zip ds).mergeSort (PySem.W.dataLe false fun b : V × PyData => b.2)).map (·.1))), I.laid (t' := s.toks) (fun _ _ => PyProof.Rows.sortedAll_old) (Nat.le_succ _) ⟨hlen2, out, ep, vals_each hout, he'⟩, rfl, q _ _ hp (I.hok.fresh (Nat.le_succ _))⟩
end
section
variable {K : PySem.W.Frag} {C : Addr} {m : Option Addr} {r : Rho} {te : TE} {O : Out} {tz : TS}
theorem eo_sorted {ds : List PyData} (h : EvX K C m te r (fun z => z = .d (.list ds))) (h1 : ∀ d, d ∈ ds → ∃ x r, d = PyData.tuple (x :: r)) (h2 : PySem.W.AllAlike ds) (h3 : ∀ d, d ∈ ds → d.depth ≤ 60) : EvO K C m (tCB (rSortedD K) (tCons te tNil)) r (fun z => z.Perm ds) := fun S0 H0 σ S H st Q q => by
  show te σ H _
  refine h S0 H0 σ S H st _ fun v s S1 H1 e st1 hv => ?_
  subst e
  have st' := st.step st1
  cases hv with
  | @lst l vs _ hq ha =>
    have ez := zip_snd (dpa_len ha)
    refine ⟨l, vs, ds, rfl, st1.sh.seq hq, dpa_mono st1.sh ha, h1, h2, h3, fun bs p hp hn => ?_⟩
    have hperm : (bs.map (·.2)).Perm ds := by
      have := hp.map (·.2)
      rw [ez] at this
      exact this
    exact q p _ _ S1 _ hperm (none_of st1 hn) (st1.trans (Stp.lay st1.sh hn)) (none_S st1.sh hn) upd_same (dpa_pairs fun b hb => zip_mem ha b (hp.mem_iff.mp hb))
/-! own lists, read -/
theorem er_ixO {i : Nat} {l : Addr} {xs : List PyData} {j : Int} {y : PyData} (hi : r[i]? = some (some (.own l xs))) (h : EvX K C m te r (fun z => z = .d (.int j))) (hj : atI xs j = some y) : EvX K C m (tOp (rIx K) (tVar i) te) r (fun z => z = .d y) := fun S0 H0 σ S H st Q q => by
  obtain ⟨v, h1, rfl, h3, vs, h4, h5⟩ := st.sl i _ hi
  refine ⟨.ref l, h1, h S0 H0 σ S H st _ fun w s S1 H1 e st1 hv => ?_⟩
  subst e
  obtain ⟨v', g1, g2, g3, ws, g4, g5⟩ := (st.step st1).sl i _ hi
  have hv' : Dp K S1 w (.int j) := hv
  cases hv'
  obtain ⟨u, e1, e2⟩ := atI_dp g5 hj
  exact .inl ⟨_, ws, j, u, rfl, rfl, .inl (.inl g4), e1, q _ _ S1 H1 rfl st1 e2⟩
theorem er_lenO {i : Nat} {l : Addr} {xs : List PyData} (hi : r[i]? = some (some (.own l xs))) : EvX K C m (tCB (rLenK K) (tCons (tVar i) tNil)) r (fun z => z = .d (.int xs.length)) := fun S0 H0 σ S H st Q q => by
  obtain ⟨v, h1, rfl, h3, vs, h4, h5⟩ := st.sl i _ hi
  refine ⟨.ref l, h1, l, vs, rfl, .inl (.inl (.inl h4)), q _ (.d (.int vs.length)) S H ?_ (Stp.refl st.sh) (Dp.int _)⟩
  rw [dpa_len h5]
/-- xs[j] = e, xs an own list -/
theorem ds_setItem {i : Nat} {l : Addr} {xs : List PyData} {j : Nat} {y : PyData} {ti : TE} (hi : r[i]? = some (some (.own l xs))) (h : EvX K C m te r (fun z => z = .d y)) (hj : EvX K C m ti r (fun z => z = .d (natD j))) (hl : j < xs.length) (k : O.nx (r.set i (some (.own l (xs.set j y))))) :
    DS K C m (tAsg te (gSub (tVar i) ti rSetL)) r O := fun S0 H0 σ S H D st k1 k2 k3 k4 =>
  h S0 H0 σ S H st _ fun v s S1 H1 e st1 hv => by
    subst e
    obtain ⟨u, h1, rfl, h3, vs, h4, h5⟩ := (st.step st1).sl i _ hi
    refine ⟨.ref l, h1, hj S0 H0 σ S1 H1 (st.step st1) _ fun w s S2 H2 e2 st2 hw => ?_⟩
    subst e2
    have hw' : Dp K S2 w (natD j) := hw
    cases hw'
    have st' := (st.step st1).step st2
    obtain ⟨u', g1, g2, g3, ws, g4, g5⟩ := st'.sl i _ hi
    refine ⟨l, ws, _, j, rfl, rfl, g4, ixN_nat (by rw [dpa_len g5]; exact hl), ?_⟩
    exact k1 _ σ S2 _ k (st'.chg hi (dpa_set j g5 (dp_mono st2.ss hv)))
theorem rowD_at {e : Ent} {j : Nat} (hj : j < 3) : atI ([natD e.1, natD e.2.1, natD e.2.2] : List PyData) (j : Int) = some (natD (match j with | 0 => e.1 | 1 => e.2.1 | _ => e.2.2)) := by
  match j, hj with
  | 0, _ => rfl
  | 1, _ => rfl
  | 2, _ => rfl
/-- the written dict of places, looked up -/
def tPlaces (te : TE) : TE := tDGet (tDisp [(tC (.str "with"), tTup (tCons (tC (.int 0)) (tCons (tC (.int 1)) (tCons (tC (.int 2)) tNil)))), (tC (.str "behind"), tTup (tCons (tC (.int 0)) (tCons (tC (.int 2)) (tCons (tC (.int 1)) tNil)))), (tC (.str "ahead"), tTup (tCons (tC (.int 1)) (tCons (tC (.int 2)) (tCons (tC (.int 0)) tNil))))]) te
theorem er_wplaces {v : Wd} (h : EvX K C m te r (fun z => z = .d (.str v.s))) : EvX K C m (tPlaces te) r (fun z => z = .d (placesD v)) := fun S0 H0 σ S H st Q q => by
  intro p hp
  refine ⟨(show 3 ≤ sizeLine by decide), fun q1 hq1 => ⟨(show 3 ≤ sizeLine by decide), fun q2 hq2 => ⟨(show 3 ≤ sizeLine by decide), fun q3 hq3 => ?_⟩⟩⟩
  have a0 : Stp m S H S (upd H p (.dK [])) := Stp.lay st.sh hp
  have a1 := a0.trans (Stp.new (o := .tup [.int 0, .int 1, .int 2]) a0.sh hq1)
  have a2 := a1.trans (Stp.new (o := .tup [.int 0, .int 2, .int 1]) a1.sh hq2)
  have a3 := a2.trans (Stp.new (o := .tup [.int 1, .int 2, .int 0]) a2.sh hq3)
  have n1 : q1 ≠ p := fun z => by rw [z, upd_same] at hq1; cases hq1
  have n2 : q2 ≠ p := fun z => by rw [z, upd_ne n1.symm, upd_same] at hq2; cases hq2
  have n21 : q2 ≠ q1 := fun z => by rw [z, upd_same] at hq2; cases hq2
  have n3 : q3 ≠ p := fun z => by rw [z, upd_ne n2.symm, upd_ne n1.symm, upd_same] at hq3; cases hq3
  have n31 : q3 ≠ q1 := fun z => by rw [z, upd_ne n21.symm, upd_same] at hq3; cases hq3
  have n32 : q3 ≠ q2 := fun z => by rw [z, upd_same] at hq3; cases hq3
  have hSp : S p = none := none_S st.sh hp
  obtain ⟨_, _, hmp, _⟩ := st.new hp
  refine ⟨by rw [upd_ne n3.symm, upd_ne n2.symm, upd_ne n1.symm, upd_same], [(.inr "with", .ref q1), (.inr "behind", .ref q2), (.inr "ahead", .ref q3)], rfl, (show 3 ≤ 15 by decide), ?_⟩
  have hS3p : (upd (upd (upd S q1 (.tup [.int 0, .int 1, .int 2])) q2 (.tup [.int 0, .int 2, .int 1])) q3 (.tup [.int 1, .int 2, .int 0])) p = none := by
    rw [upd_ne n3.symm, upd_ne n2.symm, upd_ne n1.symm]
    exact hSp
  have a4 := a3.mut (o := .dK (mergeK [] [(.inr "with", .ref q1), (.inr "behind", .ref q2), (.inr "ahead", .ref q3)])) hp hS3p hmp
  refine h S0 H0 σ _ _ (st.step a4) _ fun w s S5 H5 e5 st5 hw => ?_
  subst e5
  have hw' : Dp K S5 w (.str v.s) := hw
  cases hw'
  have hp5 := st5.hh p _ hmp upd_same
  have key : ∀ z : Addr, valV (mergeK [] [(.inr "with", .ref q1), (.inr "behind", .ref q2), (.inr "ahead", .ref q3)]) (.inr v.s : Key) = some (.ref z) → Dp K S5 (.ref z) (placesD v) → ∃ a u, V.ref p = .ref a ∧ DGet H5 a (.str v.s) (some u) ∧ Q u H5 := fun z e hz => by
    refine ⟨p, .ref z, rfl, ?_, q _ _ S5 H5 rfl (a4.trans st5) hz⟩
    rw [← e]
    exact DGet.k (k := .inr v.s) hp5
  have t3 : ∀ (a b c : Int), DpAll K S5 [.int a, .int b, .int c] [.int a, .int b, .int c] := fun a b c => .cons (.int _) (.cons (.int _) (.cons (.int _) .nil))
  cases v with
  | wi => exact key q1 (by kernel_rfl) (.tup (.inl (.inl (st5.ss _ _ (by rw [upd_ne n31.symm, upd_ne n21.symm, upd_same])))) (t3 0 1 2))
  | be => exact key q2 (by kernel_rfl) (.tup (.inl (.inl (st5.ss _ _ (by rw [upd_ne n32.symm, upd_same])))) (t3 0 2 1))
  | ah => exact key q3 (by kernel_rfl) (.tup (.inl (.inl (st5.ss _ _ upd_same))) (t3 1 2 0))
/-- tuple + (x,) -/
theorem er_catA1 {ta tb : TE} {xs : List PyData} {y : PyData} (h1 : EvX K C m ta r (fun z => z = .d (.tuple xs))) (h2 : EvX K C m tb r (fun z => z = .d y)) (hl : xs.length < 1000) : EvX K C m (tOp (rCatA K) ta (tTup (tCons tb tNil))) r (fun z => z = .d (.tuple (xs ++ [y]))) :=
  er_op h1 (er_tup (xs := [y]) (ea_cons h2 ea_nil) (show 1 ≤ 100000 by decide)) fun S H v w hs hv hw Q q => by
    have hv' : Dp K S v (.tuple xs) := hv
    have hw' : Dp K S w (.tuple [y]) := hw
    cases hv' with
    | @tup a vs _ hq ha =>
      cases hw' with
      | @tup b ws _ hq2 ha2 =>
        have l1 := dpa_len ha
        have l2 := dpa_len ha2
        have s1000 : 1000 ≤ sizeLine := by decide
        refine ⟨a, b, vs, ws, rfl, rfl, same_t hs hq, same_t hs hq2, (by rw [l1, l2]; show xs.length + 1 ≤ _; omega), fun e => ?_, fun _ e => ?_, fun _ _ p hp => ?_⟩
        · subst e
          have : xs = [] := List.length_eq_zero_iff.mp (by rw [← l1]; rfl)
          subst this
          exact q (.ref b) (.d _) S H rfl (Stp.refl hs) (.tup hq2 ha2)
        · subst e
          cases l2
        · have sn : Stp none S H (upd S p (.tup (vs ++ ws))) (upd H p (.tup (vs ++ ws))) := Stp.new hs hp
          exact q (.ref p) (.d _) _ _ rfl sn (.tup (.inl (.inl upd_same)) (dpa_mono sn.ss (dpa_append ha ha2)))
end
end RD

end
section
set_option linter.all false
set_option maxRecDepth 100000
set_option maxHeartbeats 4000000
/-! L0: promises of the law's own defs. -/
namespace RD
open PySem PySem.Spec PyProof.Rows L2
def pairFD (p : F × F) : PyData := .tuple [p.1.d, p.2.d]
def listN (M : List Nat) : PyData := .list (M.map natD)
def listR (R : List Ent) : PyData := .list (R.map rowD)
def lotD (l : List Nat) : PyData := .tuple (l.map natD)
def mk (M : List Nat) (x : Nat) : Nat := M.getD x x
structure IsMk (n : Nat) (es : List Ent) (M : List Nat) : Prop where
  len : M.length = n
  root : IsRoot es (mk M)
def pickE (fc : Fc) (l : List Nat) : List Ent := l.filterMap fun i => fc.es[i]?
/-- marks and rows of the facts -/
structure IsMR (fc : Fc) (M : List Nat) (R : List Ent) : Prop where
  ms : IsMk fc.n fc.es M
  rows : IsRows fc.es (mk M) R
theorem IsMR.kn {fc : Fc} {M : List Nat} {R : List Ent} (h : IsMR fc M R) : IsKn fc.es (lkn M R) := ⟨h.ms.root, R, h.rows, rfl⟩
section
variable (K : PySem.W.Frag) (C : Addr)
def PLCount (n : Nat) : Sp := PD K C (fun f : F => f.dep < n) (fun f => [.d f.d]) (fun f => natD f.sz)
def PLPartWord (n : Nat) : Sp := PD K C (fun a : Nat × F => a.2.lt a.1 = true ∧ a.2.dep < n) (fun a => [.d (natD a.1), .d a.2.d]) (fun _ => .none)
def PLFormulaWord : Sp := PD K C (fun a : Nat × F => FOk a.1 a.2) (fun a => [.d (natD a.1), .d a.2.d]) (fun _ => .none)
def PLRules : Sp := Pm K C (fun _ : Wd × F × F => True) (fun a => [.d (.str a.1.s), .d a.2.1.d, .d a.2.2.d]) (fun a s => s = .tl ((lrules a.2.1 a.2.2).map pairFD))
def PLRows : Sp := Pm K C (fun a : Fc × List Nat => FcOk a.1 ∧ IsMk a.1.n a.1.es a.2) (fun a => [.d a.1.d, .d (listN a.2)]) (fun a s => ∃ R, s = .tl (R.map rowD) ∧ IsRows a.1.es (mk a.2) R ∧ R.length ≤ 100)
/-- close(marks, rows): the marks change -/
def PLClose : Sp := fun vs H Q _ => C = C ∧ ∃ (S : Hp) (l : Addr) (v : V) (n : Nat) (es : List Ent), vs = [.ref l, v] ∧ Same S H ∧ S l = none ∧ H l = some (.lst ((List.range n).map nV)) ∧ Dp K S v (listR es) ∧ RowsOk n es ∧ 1 ≤ n ∧ n ≤ 8 ∧ es.length ≤ 100 ∧
  ∀ (S' H' : Hp) (M : List Nat), StD (fun a => a = l) S H S' H' → S' l = none → H' l = some (.lst (M.map nV)) → IsMk n es M → Q (.ref l) H'
def PLMarks : Sp := Pm K C (fun a : Fc × List Nat => FcOk a.1 ∧ (∀ i ∈ a.2, i < a.1.es.length) ∧ a.2.length ≤ 100) (fun a => [.d a.1.d, .d (listN a.2)]) (fun a s => ∃ M, s = .tl (M.map natD) ∧ IsMk a.1.n (pickE a.1 a.2) M)
def PLMarksT : Sp := Pm K C (fun a : Fc × List Nat => FcOk a.1 ∧ (∀ i ∈ a.2, i < a.1.es.length) ∧ a.2.length ≤ 100) (fun a => [.d a.1.d, .d (lotD a.2)]) (fun a s => ∃ M, s = .tl (M.map natD) ∧ IsMk a.1.n (pickE a.1 a.2) M)
def PLAllMarks : Sp := Pm K C (fun a : Fc => FcOk a) (fun a => [.d a.d]) (fun a s => ∃ M, s = .tl (M.map natD) ∧ IsMk a.n a.es M)
def PLLots : Sp := Pm K C (fun n : Nat => n ≤ 10) (fun n => [.d (natD n)]) (fun n s => ∃ L : List (List Nat), s = .tl (L.map lotD) ∧ (∀ l ∈ L, ∀ x ∈ l, x < n) ∧ (∀ l ∈ L, l.length ≤ n) ∧ List.range n ∈ L)
def PLClash : Sp := Pm K C (fun a : Fc => FcOk a) (fun a => [.d a.d]) (fun a s => (s = .d .none ∧ NoClash a) ∨ ((∃ xs, s = .d (.tuple xs)) ∧ a.un ≠ []))
structure MvOk (M : List Nat) (f : F) : Prop where
  lt : f.lt M.length = true
  dep : f.dep ≤ 40
def PLMove : Sp := PD K C (fun a : List Nat × List Ent × F × F => MvOk a.1 a.2.2.1 ∧ MvOk a.1 a.2.2.2 ∧ a.2.1.length ≤ 100) (fun a => [.d (listN a.1), .d (listR a.2.1), .d a.2.2.1.d, .d a.2.2.2.d]) (fun a => .bool (lmove a.1 a.2.1 a.2.2.1 a.2.2.2))
def PLIsStep (n : Nat) : Sp := PD K C (fun a : List Nat × List Ent × F × F => MvOk a.1 a.2.2.1 ∧ MvOk a.1 a.2.2.2 ∧ a.2.1.length ≤ 100 ∧ a.2.2.1.dep < n) (fun a => [.d (listN a.1), .d (listR a.2.1), .d a.2.2.1.d, .d a.2.2.2.d]) (fun a => .bool (lstep a.1 a.2.1 a.2.2.1 a.2.2.2))
def PLIsRoad : Sp := PD K C (fun a : Fc × List Nat × List Ent × F × F × List F => a.2.1.length = a.1.n ∧ a.2.2.1.length ≤ 100 ∧ RoadOk a.1.n a.2.2.2.1 a.2.2.2.2.1 a.2.2.2.2.2 ∧ Walk (lstep a.2.1 a.2.2.1) a.2.2.2.2.2)
  (fun a => [.d a.1.d, .d (listN a.2.1), .d (listR a.2.2.1), .d a.2.2.2.1.d, .d a.2.2.2.2.1.d, .d (.tuple (a.2.2.2.2.2.map F.d))]) (fun _ => .bool true)
def PLPlain (n : Nat) : Sp := PD K C (fun a : List Nat × List Ent × F => a.2.2.lt a.1.length = true ∧ a.2.2.dep < n ∧ a.2.2.dep ≤ 40) (fun a => [.d (listN a.1), .d (listR a.2.1), .d a.2.2.d]) (fun a => (lplain (lkn a.1 a.2.1) a.2.2).d)
end
end RD

end
section
set_option linter.all false
set_option maxRecDepth 100000
set_option maxHeartbeats 4000000
namespace RD
open PySem PySem.Spec PyProof.Rows L2
abbrev sLCount : Stmt := topS 51
abbrev NLCount : List Str := ["_law_value"]
theorem scLCount : FnScope NLCount ["_law_value"] (defScope sLCount) := ⟨rfl, rfl, rfl, by decide +kernel, rfl, by decide +kernel, by decide +kernel⟩
def tLCount (K : PySem.W.Frag) (C : Addr) (nLCount : Nat) : TS :=
  (tRet (tIf (tB (tCB (rIsi K) (tCons (tVar 0) (tCons (tC (.ty "tuple")) tNil)))) (tOp (rI0 fun i j => .int (i + j)) (tOp (rI0 fun i j => .int (i + j)) (tC (.int 1)) (tCall (PLCount K C nLCount) [] L2.E0 (tCons (tOp (rIx K) (tVar 0) (tC (.int 1))) tNil))) (tCall (PLCount K C nLCount) [] L2.E0 (tCons (tOp (rIx K) (tVar 0) (tC (.int 2))) tNil))) (tC (.int 1))))
set_option maxHeartbeats 8000000 in
theorem dvLCount {P : Program} {w : World} {K : PySem.W.Frag} {mg : Str → Option Value} {base : Heap} {C aW aP : Addr} {f : Addr} {cdv : Value} {A : Around} {outer : List Env} {s : Shared} {H : Hp} {E : XK} {k : Nat} {nLCount : Nat} (T : Bl K w mg C aW aP) {jLCount : Nat} (cLCount : Cl P w K mg base jLCount "_law_count" (PLCount K C nLCount)) (hjLCount : jLCount ≤ k) (hr : Room k (A.deeper (envOfC "_law_count" (defScope sLCount) s.heap.objs.size f cdv))) :
    PSs (cxOf L2.CX0 P w K mg base NLCount "_law_count" (defScope sLCount) f cdv A outer s H E).nox (defBody sLCount) (tLCount K C nLCount) :=
  (pss_one (ps_ret (pe_ifExp (pt_val (pe_callB call_isi (by rfl) T.isinstance_ (by decide +kernel) (pa_cons (pv 0) (pa_cons (pe_bltn (v := .ty "tuple") (by rfl) T.tuple_ boot_tuple rfl) pa_nil)))) (pe_op op_add (pe_op op_add pe_int (pe_d cLCount hr (by omega) (by rfl) (pa_cons (pe_ix ix_seq (pv 0) pe_int (fun _ _ => rfl)) pa_nil))) (pe_d cLCount hr (by omega) (by rfl) (pa_cons (pe_ix ix_seq (pv 0) pe_int (fun _ _ => rfl)) pa_nil))) pe_int)))
abbrev sLPartWord : Stmt := topS 59
abbrev NLPartWord : List Str := ["_law_names", "_law_value", "_law_first"]
theorem scLPartWord : FnScope NLPartWord ["_law_names", "_law_value"] (defScope sLPartWord) := ⟨rfl, rfl, rfl, by decide +kernel, rfl, by decide +kernel, by decide +kernel⟩
def tLPartWord (K : PySem.W.Frag) (C : Addr) (nLPartWord : Nat) : TS :=
  (tSeq (tIfS (tAnd (tB (tCB (rIsi K) (tCons (tVar 1) (tCons (tC (.ty "int")) tNil)))) (tNot (tB (tCB (rIsi K) (tCons (tVar 1) (tCons (tC (.ty "bool")) tNil)))))) (tRet (tIf (tTest (tChain (rI0 fun i j => .bl (decide (i ≤ j))) (rI0 fun i j => .bl (decide (i < j))) (tC (.int 0)) (tVar 1) (tVar 0))) (tC .non) (tC (.str "name")))) tNext)
    (tSeq (tIfS (tOr (tNot (tB (tCB (rIsi K) (tCons (tVar 1) (tCons (tC (.ty "tuple")) tNil))))) (tTest (tOp (rNeD K) (tCB (rLenK K) (tCons (tVar 1) tNil)) (tC (.int 3))))) (tRet (tC (.str "formula"))) tNext)
    (tSeq (tIfS (tOr (tNot (tB (tCB (rIsi K) (tCons (tOp (rIx K) (tVar 1) (tC (.int 0))) (tCons (tC (.ty "str")) tNil))))) (tTest (tOp (rNotInD K) (tOp (rIx K) (tVar 1) (tC (.int 0))) (tLst (tCons (tC (.str "with")) (tCons (tC (.str "behind")) (tCons (tC (.str "ahead")) tNil))))))) (tRet (tC (.str "word"))) tNext)
    (tSeq (tAsg (tCall (PLPartWord K C nLPartWord) [] L2.E0 (tCons (tVar 0) (tCons (tOp (rIx K) (tVar 1) (tC (.int 1))) tNil))) (gName 2))
    (tRet (tIf (tTest (tOp rIsNo (tVar 2) (tC .non))) (tCall (PLPartWord K C nLPartWord) [] L2.E0 (tCons (tVar 0) (tCons (tOp (rIx K) (tVar 1) (tC (.int 2))) tNil))) (tVar 2)))))))
set_option maxHeartbeats 8000000 in
theorem dvLPartWord {P : Program} {w : World} {K : PySem.W.Frag} {mg : Str → Option Value} {base : Heap} {C aW aP : Addr} {f : Addr} {cdv : Value} {A : Around} {outer : List Env} {s : Shared} {H : Hp} {E : XK} {k : Nat} {nLPartWord : Nat} (T : Bl K w mg C aW aP) {jLPartWord : Nat} (cLPartWord : Cl P w K mg base jLPartWord "_law_part_word" (PLPartWord K C nLPartWord)) (hjLPartWord : jLPartWord ≤ k) (hr : Room k (A.deeper (envOfC "_law_part_word" (defScope sLPartWord) s.heap.objs.size f cdv))) :
    PSs (cxOf L2.CX0 P w K mg base NLPartWord "_law_part_word" (defScope sLPartWord) f cdv A outer s H E).nox (defBody sLPartWord) (tLPartWord K C nLPartWord) :=
  (pss_cons (ps_if (PW.pt (pw_and (pt_val (pe_callB call_isi (by rfl) T.isinstance_ (by decide +kernel) (pa_cons (pv 1) (pa_cons (pe_bltn (v := .ty "int") (by rfl) T.int_ boot_int rfl) pa_nil)))) (pw_and1 (pt_not (pt_val (pe_callB call_isi (by rfl) T.isinstance_ (by decide +kernel) (pa_cons (pv 1) (pa_cons (pe_bltn (v := .ty "bool") (by rfl) T.bool_ boot_bool rfl) pa_nil)))))))) (pss_one (ps_ret (pe_ifExp (pt_chain op_le op_lt pe_int (pv 1) (pv 0)) pe_non pe_str))) pss_nil)
    (pss_cons (ps_if (PW.pt (pw_or (pt_not (pt_val (pe_callB call_isi (by rfl) T.isinstance_ (by decide +kernel) (pa_cons (pv 1) (pa_cons (pe_bltn (v := .ty "tuple") (by rfl) T.tuple_ boot_tuple rfl) pa_nil))))) (pw_or1 (pt_cmpR (op_neD hr.units) (pe_callB call_len_seq (by rfl) T.len_ PySem.boot_len (pa_cons (pv 1) pa_nil)) pe_int (nomark _))))) (pss_one (ps_ret pe_str)) pss_nil)
    (pss_cons (ps_if (PW.pt (pw_or (pt_not (pt_val (pe_callB call_isi (by rfl) T.isinstance_ (by decide +kernel) (pa_cons (pe_ix ix_seq (pv 1) pe_int (fun _ _ => rfl)) (pa_cons (pe_bltn (v := .ty "str") (by rfl) T.str_ boot_str rfl) pa_nil))))) (pw_or1 (pt_cmpR (op_notInD hr.units65) (pe_ix ix_seq (pv 1) pe_int (fun _ _ => rfl)) (pe_lst (pa_cons pe_str (pa_cons pe_str (pa_cons pe_str pa_nil)))) (by rfl))))) (pss_one (ps_ret pe_str)) pss_nil)
    (pss_cons (ps_set (i := 2) scLPartWord.nd rfl (Or.inl rfl) (pe_d cLPartWord hr (by omega) (by rfl) (pa_cons (pv 0) (pa_cons (pe_ix ix_seq (pv 1) pe_int (fun _ _ => rfl)) pa_nil))))
    (pss_one (ps_ret (pe_ifExp (pt_cmpR op_isN (pv 2) pe_non (nomark _)) (pe_d cLPartWord hr (by omega) (by rfl) (pa_cons (pv 0) (pa_cons (pe_ix ix_seq (pv 1) pe_int (fun _ _ => rfl)) pa_nil))) (pv 2))))))))
abbrev sLFormulaWord : Stmt := topS 60
abbrev NLFormulaWord : List Str := ["_law_names", "_law_value", "_law_word"]
theorem scLFormulaWord : FnScope NLFormulaWord ["_law_names", "_law_value"] (defScope sLFormulaWord) := ⟨rfl, rfl, rfl, by decide +kernel, rfl, by decide +kernel, by decide +kernel⟩
def tLFormulaWord (K : PySem.W.Frag) (C : Addr) (nLCount : Nat) (nLPartWord : Nat) : TS :=
  (tSeq (tAsg (tCall (PLPartWord K C nLPartWord) [] L2.E0 (tCons (tVar 0) (tCons (tVar 1) tNil))) (gName 2))
    (tRet (tIf (tAnd (tTest (tOp rIsNo (tVar 2) (tC .non))) (tTest (tOp (rI0 fun i j => .bl (decide (j < i))) (tCall (PLCount K C nLCount) [] L2.E0 (tCons (tVar 1) tNil)) (tC (.int 15))))) (tC (.str "size")) (tVar 2))))
set_option maxHeartbeats 8000000 in
theorem dvLFormulaWord {P : Program} {w : World} {K : PySem.W.Frag} {mg : Str → Option Value} {base : Heap} {C aW aP : Addr} {f : Addr} {cdv : Value} {A : Around} {outer : List Env} {s : Shared} {H : Hp} {E : XK} {k : Nat} {nLCount : Nat} {nLPartWord : Nat} (T : Bl K w mg C aW aP) {jLCount : Nat} (cLCount : Cl P w K mg base jLCount "_law_count" (PLCount K C nLCount)) (hjLCount : jLCount ≤ k)
    {jLPartWord : Nat} (cLPartWord : Cl P w K mg base jLPartWord "_law_part_word" (PLPartWord K C nLPartWord)) (hjLPartWord : jLPartWord ≤ k) (hr : Room k (A.deeper (envOfC "_law_formula_word" (defScope sLFormulaWord) s.heap.objs.size f cdv))) :
    PSs (cxOf L2.CX0 P w K mg base NLFormulaWord "_law_formula_word" (defScope sLFormulaWord) f cdv A outer s H E).nox (defBody sLFormulaWord) (tLFormulaWord K C nLCount nLPartWord) :=
  (pss_cons (ps_set (i := 2) scLFormulaWord.nd rfl (Or.inl rfl) (pe_d cLPartWord hr (by omega) (by rfl) (pa_cons (pv 0) (pa_cons (pv 1) pa_nil))))
    (pss_one (ps_ret (pe_ifExp (PW.pt (pw_and (pt_cmpR op_isN (pv 2) pe_non (nomark _)) (pw_and1 (pt_cmpR op_gt (pe_d cLCount hr (by omega) (by rfl) (pa_cons (pv 1) pa_nil)) pe_int (nomark _))))) pe_str (pv 2)))))
abbrev sLRules : Stmt := topS 61
abbrev NLRules : List Str := ["_law_word", "_law_one", "_law_other", "_law_found"]
theorem scLRules : FnScope NLRules ["_law_word", "_law_one", "_law_other"] (defScope sLRules) := ⟨rfl, rfl, rfl, by decide +kernel, rfl, by decide +kernel, by decide +kernel⟩
def tLRules (K : PySem.W.Frag) (C : Addr) : TS :=
  (tSeq (tAsg (tLst tNil) (gName 3))
    (tSeq (tIfS (tNot (tB (tCB (rIsi K) (tCons (tVar 2) (tCons (tC (.ty "int")) tNil))))) (tSeq (tDrop (tBM K "list" rAppend (tVar 3) (tCons (tTup (tCons (tTup (tCons (tC (.str "with")) (tCons (tOp (rIx K) (tVar 2) (tC (.int 1))) (tCons (tTup (tCons (tC (.str "behind")) (tCons (tOp (rIx K) (tVar 2) (tC (.int 1))) (tCons (tOp (rIx K) (tVar 2) (tC (.int 2))) tNil)))) tNil)))) (tCons (tOp (rIx K) (tVar 2) (tC (.int 2))) tNil))) tNil)))
    (tSeq (tDrop (tBM K "list" rAppend (tVar 3) (tCons (tTup (tCons (tTup (tCons (tC (.str "behind")) (tCons (tOp (rIx K) (tVar 2) (tC (.int 1))) (tCons (tTup (tCons (tC (.str "with")) (tCons (tOp (rIx K) (tVar 2) (tC (.int 1))) (tCons (tOp (rIx K) (tVar 2) (tC (.int 2))) tNil)))) tNil)))) (tCons (tOp (rIx K) (tVar 2) (tC (.int 2))) tNil))) tNil)))
    (tDrop (tBM K "list" rAppend (tVar 3) (tCons (tTup (tCons (tTup (tCons (tC (.str "ahead")) (tCons (tOp (rIx K) (tVar 2) (tC (.int 2))) (tCons (tTup (tCons (tC (.str "with")) (tCons (tOp (rIx K) (tVar 2) (tC (.int 1))) (tCons (tOp (rIx K) (tVar 2) (tC (.int 2))) tNil)))) tNil)))) (tCons (tOp (rIx K) (tVar 2) (tC (.int 1))) tNil))) tNil))))) tNext)
    (tSeq (tIfS (tNot (tB (tCB (rIsi K) (tCons (tVar 1) (tCons (tC (.ty "int")) tNil))))) (tSeq (tDrop (tBM K "list" rAppend (tVar 3) (tCons (tTup (tCons (tTup (tCons (tC (.str "with")) (tCons (tTup (tCons (tC (.str "ahead")) (tCons (tOp (rIx K) (tVar 1) (tC (.int 1))) (tCons (tOp (rIx K) (tVar 1) (tC (.int 2))) tNil)))) (tCons (tOp (rIx K) (tVar 1) (tC (.int 1))) tNil)))) (tCons (tOp (rIx K) (tVar 1) (tC (.int 2))) tNil))) tNil)))
    (tSeq (tDrop (tBM K "list" rAppend (tVar 3) (tCons (tTup (tCons (tTup (tCons (tC (.str "behind")) (tCons (tTup (tCons (tC (.str "ahead")) (tCons (tOp (rIx K) (tVar 1) (tC (.int 1))) (tCons (tOp (rIx K) (tVar 1) (tC (.int 2))) tNil)))) (tCons (tOp (rIx K) (tVar 1) (tC (.int 2))) tNil)))) (tCons (tOp (rIx K) (tVar 1) (tC (.int 1))) tNil))) tNil)))
    (tDrop (tBM K "list" rAppend (tVar 3) (tCons (tTup (tCons (tTup (tCons (tC (.str "ahead")) (tCons (tTup (tCons (tC (.str "behind")) (tCons (tOp (rIx K) (tVar 1) (tC (.int 1))) (tCons (tOp (rIx K) (tVar 1) (tC (.int 2))) tNil)))) (tCons (tOp (rIx K) (tVar 1) (tC (.int 2))) tNil)))) (tCons (tOp (rIx K) (tVar 1) (tC (.int 1))) tNil))) tNil))))) tNext)
    (tRet (tVar 3)))))
set_option maxHeartbeats 8000000 in
theorem dvLRules {P : Program} {w : World} {K : PySem.W.Frag} {mg : Str → Option Value} {base : Heap} {C aW aP : Addr} {f : Addr} {cdv : Value} {A : Around} {outer : List Env} {s : Shared} {H : Hp} {E : XK} {k : Nat} (T : Bl K w mg C aW aP)  (hr : Room k (A.deeper (envOfC "_law_rules" (defScope sLRules) s.heap.objs.size f cdv))) :
    PSs (cxOf L2.CX0 P w K mg base NLRules "_law_rules" (defScope sLRules) f cdv A outer s H E).nox (defBody sLRules) (tLRules K C) :=
  (pss_cons (ps_set (i := 3) scLRules.nd rfl (Or.inl rfl) (pe_lst pa_nil))
    (pss_cons (ps_if (pt_not (pt_val (pe_callB call_isi (by rfl) T.isinstance_ (by decide +kernel) (pa_cons (pv 2) (pa_cons (pe_bltn (v := .ty "int") (by rfl) T.int_ boot_int rfl) pa_nil))))) (pss_cons (ps_expr (pe_bm PySem.F.plainAttrs_list PySem.F.slot_list_append PySem.F.type_list_append mt_append (pv 3) (pa_cons (pe_tup (pa_cons (pe_tup (pa_cons pe_str (pa_cons (pe_ix ix_seq (pv 2) pe_int (fun _ _ => rfl)) (pa_cons (pe_tup (pa_cons pe_str (pa_cons (pe_ix ix_seq (pv 2) pe_int (fun _ _ => rfl)) (pa_cons (pe_ix ix_seq (pv 2) pe_int (fun _ _ => rfl)) pa_nil)))) pa_nil)))) (pa_cons (pe_ix ix_seq (pv 2) pe_int (fun _ _ => rfl)) pa_nil))) pa_nil)))
    (pss_cons (ps_expr (pe_bm PySem.F.plainAttrs_list PySem.F.slot_list_append PySem.F.type_list_append mt_append (pv 3) (pa_cons (pe_tup (pa_cons (pe_tup (pa_cons pe_str (pa_cons (pe_ix ix_seq (pv 2) pe_int (fun _ _ => rfl)) (pa_cons (pe_tup (pa_cons pe_str (pa_cons (pe_ix ix_seq (pv 2) pe_int (fun _ _ => rfl)) (pa_cons (pe_ix ix_seq (pv 2) pe_int (fun _ _ => rfl)) pa_nil)))) pa_nil)))) (pa_cons (pe_ix ix_seq (pv 2) pe_int (fun _ _ => rfl)) pa_nil))) pa_nil)))
    (pss_one (ps_expr (pe_bm PySem.F.plainAttrs_list PySem.F.slot_list_append PySem.F.type_list_append mt_append (pv 3) (pa_cons (pe_tup (pa_cons (pe_tup (pa_cons pe_str (pa_cons (pe_ix ix_seq (pv 2) pe_int (fun _ _ => rfl)) (pa_cons (pe_tup (pa_cons pe_str (pa_cons (pe_ix ix_seq (pv 2) pe_int (fun _ _ => rfl)) (pa_cons (pe_ix ix_seq (pv 2) pe_int (fun _ _ => rfl)) pa_nil)))) pa_nil)))) (pa_cons (pe_ix ix_seq (pv 2) pe_int (fun _ _ => rfl)) pa_nil))) pa_nil)))))) pss_nil)
    (pss_cons (ps_if (pt_not (pt_val (pe_callB call_isi (by rfl) T.isinstance_ (by decide +kernel) (pa_cons (pv 1) (pa_cons (pe_bltn (v := .ty "int") (by rfl) T.int_ boot_int rfl) pa_nil))))) (pss_cons (ps_expr (pe_bm PySem.F.plainAttrs_list PySem.F.slot_list_append PySem.F.type_list_append mt_append (pv 3) (pa_cons (pe_tup (pa_cons (pe_tup (pa_cons pe_str (pa_cons (pe_tup (pa_cons pe_str (pa_cons (pe_ix ix_seq (pv 1) pe_int (fun _ _ => rfl)) (pa_cons (pe_ix ix_seq (pv 1) pe_int (fun _ _ => rfl)) pa_nil)))) (pa_cons (pe_ix ix_seq (pv 1) pe_int (fun _ _ => rfl)) pa_nil)))) (pa_cons (pe_ix ix_seq (pv 1) pe_int (fun _ _ => rfl)) pa_nil))) pa_nil)))
    (pss_cons (ps_expr (pe_bm PySem.F.plainAttrs_list PySem.F.slot_list_append PySem.F.type_list_append mt_append (pv 3) (pa_cons (pe_tup (pa_cons (pe_tup (pa_cons pe_str (pa_cons (pe_tup (pa_cons pe_str (pa_cons (pe_ix ix_seq (pv 1) pe_int (fun _ _ => rfl)) (pa_cons (pe_ix ix_seq (pv 1) pe_int (fun _ _ => rfl)) pa_nil)))) (pa_cons (pe_ix ix_seq (pv 1) pe_int (fun _ _ => rfl)) pa_nil)))) (pa_cons (pe_ix ix_seq (pv 1) pe_int (fun _ _ => rfl)) pa_nil))) pa_nil)))
    (pss_one (ps_expr (pe_bm PySem.F.plainAttrs_list PySem.F.slot_list_append PySem.F.type_list_append mt_append (pv 3) (pa_cons (pe_tup (pa_cons (pe_tup (pa_cons pe_str (pa_cons (pe_tup (pa_cons pe_str (pa_cons (pe_ix ix_seq (pv 1) pe_int (fun _ _ => rfl)) (pa_cons (pe_ix ix_seq (pv 1) pe_int (fun _ _ => rfl)) pa_nil)))) (pa_cons (pe_ix ix_seq (pv 1) pe_int (fun _ _ => rfl)) pa_nil)))) (pa_cons (pe_ix ix_seq (pv 1) pe_int (fun _ _ => rfl)) pa_nil))) pa_nil)))))) pss_nil)
    (pss_one (ps_ret (pv 3))))))
abbrev sLRows : Stmt := topS 62
abbrev NLRows : List Str := ["_law_facts_here", "_law_marks_here", "_law_entry", "_law_name"]
theorem scLRows : FnScope NLRows ["_law_facts_here", "_law_marks_here"] (defScope sLRows) := ⟨rfl, rfl, rfl, by decide +kernel, rfl, by decide +kernel, by decide +kernel⟩
def tLRows (K : PySem.W.Frag) (C : Addr) (P : Program) (w : World) : TS :=
  (tRet (tCB (rSortedT K P w) (tCons (tCB (rSetOfT K P w) (tCons (tLc (iTup K (tOp (rIx K) (tVar 0) (tC (.int 1)))) (gName 2) tYes (tCB (rTupOf K) (tCons (tLc (iTup K (tVar 2)) (gName 3) tYes (tOp (rIx K) (tVar 1) (tVar 3)) [3]) tNil)) [2]) tNil)) tNil)))
set_option maxHeartbeats 8000000 in
theorem dvLRows {P : Program} {w : World} {K : PySem.W.Frag} {mg : Str → Option Value} {base : Heap} {C aW aP : Addr} {f : Addr} {cdv : Value} {A : Around} {outer : List Env} {s : Shared} {H : Hp} {E : XK} {k : Nat} (T : Bl K w mg C aW aP)  (hr : Room k (A.deeper (envOfC "_law_rows" (defScope sLRows) s.heap.objs.size f cdv))) :
    PSs (cxOf L2.CX0 P w K mg base NLRows "_law_rows" (defScope sLRows) f cdv A outer s H E).nox (defBody sLRows) (tLRows K C P w) :=
  (pss_one (ps_ret (pe_callB (cr_sortedT rfl) (by rfl) T.sorted_ (by decide +kernel) (pa_cons (pe_callTy (cr_setOfT rfl hr.units) (by rfl) T.set_ (by decide +kernel) (pa_cons (pe_lc (own := [("_law_entry", 2)]) (g := (gName 2)) (tt := tYes) (te := (tCB (rTupOf K) (tCons (tLc (iTup K (tVar 2)) (gName 3) tYes (tOp (rIx K) (tVar 1) (tVar 3)) [3]) tNil))) rfl scLRows.nd (pi_tup (pe_ix ix_seq (pv 0) pe_int (fun _ _ => rfl))) (blkOk_by (N := NLRows) (sc := (defScope sLRows)) (own := [("_law_entry", 2)]) (by decide +kernel)) (fun _ _ _ _ _ => (pg_name (i := 2) scLRows.nd rfl (Or.inl rfl))) (fun _ _ _ _ _ => pts_nil) (fun _ _ _ _ _ => (pe_callTy call_tuple_of (by rfl) T.tuple_ (by decide +kernel) (pa_cons (pe_lc (own := [("_law_name", 3)]) (g := (gName 3)) (tt := tYes) (te := (tOp (rIx K) (tVar 1) (tVar 3))) rfl scLRows.nd (pi_tup (pv 2)) (blkOk_by (own := [("_law_name", 3)]) (by kernel_rfl)) (fun _ _ _ _ _ => (pg_name (i := 3) scLRows.nd rfl (Or.inl rfl))) (fun _ _ _ _ _ => pts_nil) (fun _ _ _ _ _ => (pe_ix ix_seq (pv 1) (pv 3) (fun _ _ => rfl)))) pa_nil)))) pa_nil)) pa_nil))))
abbrev sLClose : Stmt := topS 53
abbrev NLClose : List Str := ["_law_marks_here", "_law_rows_here", "_law_turn", "_law_pairs", "_law_one", "_law_other", "_law_first", "_law_second", "_law_third", "_law_low", "_law_high", "_law_thing"]
theorem scLClose : FnScope NLClose ["_law_marks_here", "_law_rows_here"] (defScope sLClose) := ⟨rfl, rfl, rfl, by decide +kernel, rfl, by decide +kernel, by decide +kernel⟩
def tLClose (K : PySem.W.Frag) (C : Addr) : TS :=
  (tSeq (tFor (iRng1 (tCons (tCB (rLenK K) (tCons (tVar 0) tNil)) tNil)) (gName 2) (tSeq (tAsg (tLst tNil) (gName 3))
    (tSeq (tFor (iList K (tVar 1)) (gName 4) (tFor (iList K (tVar 1)) (gName 5) (tFor (iList K (tLst (tCons (tTup (tCons (tC (.int 0)) (tCons (tC (.int 1)) (tCons (tC (.int 2)) tNil)))) (tCons (tTup (tCons (tC (.int 0)) (tCons (tC (.int 2)) (tCons (tC (.int 1)) tNil)))) (tCons (tTup (tCons (tC (.int 1)) (tCons (tC (.int 2)) (tCons (tC (.int 0)) tNil)))) tNil))))) (gTup K 3 (gCons (gName 6) (gCons (gName 7) (gCons (gName 8) gNil)))) (tIfS (tAnd (tTest (tOp (rEqD K) (tOp (rIx K) (tVar 0) (tOp (rIx K) (tVar 4) (tVar 6))) (tOp (rIx K) (tVar 0) (tOp (rIx K) (tVar 5) (tVar 6))))) (tTest (tOp (rEqD K) (tOp (rIx K) (tVar 0) (tOp (rIx K) (tVar 4) (tVar 7))) (tOp (rIx K) (tVar 0) (tOp (rIx K) (tVar 5) (tVar 7)))))) (tIfS (tTest (tOp (rI0 fun i j => .bl (decide (i < j))) (tOp (rIx K) (tVar 0) (tOp (rIx K) (tVar 4) (tVar 8))) (tOp (rIx K) (tVar 0) (tOp (rIx K) (tVar 5) (tVar 8))))) (tDrop (tBM K "list" rAppend (tVar 3) (tCons (tTup (tCons (tOp (rIx K) (tVar 0) (tOp (rIx K) (tVar 4) (tVar 8))) (tCons (tOp (rIx K) (tVar 0) (tOp (rIx K) (tVar 5) (tVar 8))) tNil))) tNil))) tNext) tNext))))
    (tSeq (tIfS (tTest (tOp (rEqD K) (tVar 3) (tLst tNil))) tBreak tNext)
    (tSeq (tAsg (tOp (rIx K) (tVar 3) (tC (.int 0))) (gTup K 2 (gCons (gName 9) (gCons (gName 10) gNil))))
    (tFor (iRng1 (tCons (tCB (rLenK K) (tCons (tVar 0) tNil)) tNil)) (gName 11) (tIfS (tTest (tOp (rEqD K) (tOp (rIx K) (tVar 0) (tVar 11)) (tVar 10))) (tAsg (tVar 9) (gSub (tVar 0) (tVar 11) rSetL)) tNext)))))))
    (tRet (tVar 0)))
set_option maxHeartbeats 8000000 in
theorem dvLClose {P : Program} {w : World} {K : PySem.W.Frag} {mg : Str → Option Value} {base : Heap} {C aW aP : Addr} {f : Addr} {cdv : Value} {A : Around} {outer : List Env} {s : Shared} {H : Hp} {E : XK} {k : Nat} (T : Bl K w mg C aW aP)  (hr : Room k (A.deeper (envOfC "_law_close" (defScope sLClose) s.heap.objs.size f cdv))) :
    PSs (cxOf L2.CX0 P w K mg base NLClose "_law_close" (defScope sLClose) f cdv A outer s H E).nox (defBody sLClose) (tLClose K C) :=
  (pss_cons (ps_for PassesOwn.never rfl (pi_range1 (by rfl) T.range_ (pa_cons (pe_callB call_len_seq (by rfl) T.len_ PySem.boot_len (pa_cons (pv 0) pa_nil)) pa_nil)) (pg_name (i := 2) scLClose.nd rfl (Or.inl rfl)) (pss_cons (ps_set (i := 3) scLClose.nd rfl (Or.inl rfl) (pe_lst pa_nil))
    (pss_cons (ps_for PassesOwn.never rfl (pi_list (pv 1)) (pg_name (i := 4) scLClose.nd rfl (Or.inl rfl)) (pss_one (ps_for PassesOwn.never rfl (pi_list (pv 1)) (pg_name (i := 5) scLClose.nd rfl (Or.inl rfl)) (pss_one (ps_for PassesOwn.never rfl (pi_list (pe_lst (pa_cons (pe_tup (pa_cons pe_int (pa_cons pe_int (pa_cons pe_int pa_nil)))) (pa_cons (pe_tup (pa_cons pe_int (pa_cons pe_int (pa_cons pe_int pa_nil)))) (pa_cons (pe_tup (pa_cons pe_int (pa_cons pe_int (pa_cons pe_int pa_nil)))) pa_nil))))) (pg_tup rfl (pgs_cons (pg_name (i := 6) scLClose.nd rfl (Or.inl rfl)) (pgs_cons (pg_name (i := 7) scLClose.nd rfl (Or.inl rfl)) (pgs_cons (pg_name (i := 8) scLClose.nd rfl (Or.inl rfl)) pgs_nil)))) (pss_one (ps_if (PW.pt (pw_and (pt_cmpR (op_eqD hr.units) (pe_ix ix_seq (pv 0) (pe_ix ix_seq (pv 4) (pv 6) (fun _ _ => rfl)) (fun _ _ => rfl)) (pe_ix ix_seq (pv 0) (pe_ix ix_seq (pv 5) (pv 6) (fun _ _ => rfl)) (fun _ _ => rfl)) (nomark _)) (pw_and1 (pt_cmpR (op_eqD hr.units) (pe_ix ix_seq (pv 0) (pe_ix ix_seq (pv 4) (pv 7) (fun _ _ => rfl)) (fun _ _ => rfl)) (pe_ix ix_seq (pv 0) (pe_ix ix_seq (pv 5) (pv 7) (fun _ _ => rfl)) (fun _ _ => rfl)) (nomark _))))) (pss_one (ps_if (pt_cmpR op_lt (pe_ix ix_seq (pv 0) (pe_ix ix_seq (pv 4) (pv 8) (fun _ _ => rfl)) (fun _ _ => rfl)) (pe_ix ix_seq (pv 0) (pe_ix ix_seq (pv 5) (pv 8) (fun _ _ => rfl)) (fun _ _ => rfl)) (nomark _)) (pss_one (ps_expr (pe_bm PySem.F.plainAttrs_list PySem.F.slot_list_append PySem.F.type_list_append mt_append (pv 3) (pa_cons (pe_tup (pa_cons (pe_ix ix_seq (pv 0) (pe_ix ix_seq (pv 4) (pv 8) (fun _ _ => rfl)) (fun _ _ => rfl)) (pa_cons (pe_ix ix_seq (pv 0) (pe_ix ix_seq (pv 5) (pv 8) (fun _ _ => rfl)) (fun _ _ => rfl)) pa_nil))) pa_nil)))) pss_nil)) pss_nil)))))))
    (pss_cons (ps_if (pt_cmpR (op_eqD hr.units) (pv 3) (pe_lst pa_nil) (nomark _)) (pss_one ps_break) pss_nil)
    (pss_cons (ps_asg (pe_ix ix_seq (pv 3) pe_int (fun _ _ => rfl)) (pg_tup rfl (pgs_cons (pg_name (i := 9) scLClose.nd rfl (Or.inl rfl)) (pgs_cons (pg_name (i := 10) scLClose.nd rfl (Or.inl rfl)) pgs_nil))))
    (pss_one (ps_for PassesOwn.never rfl (pi_range1 (by rfl) T.range_ (pa_cons (pe_callB call_len_seq (by rfl) T.len_ PySem.boot_len (pa_cons (pv 0) pa_nil)) pa_nil)) (pg_name (i := 11) scLClose.nd rfl (Or.inl rfl)) (pss_one (ps_if (pt_cmpR (op_eqD hr.units) (pe_ix ix_seq (pv 0) (pv 11) (fun _ _ => rfl)) (pv 10) (nomark _)) (pss_one (ps_asg (pv 9) (pg_sub (pv 0) (pv 11) set_list))) pss_nil)))))))))
    (pss_one (ps_ret (pv 0))))
abbrev sLMarks : Stmt := topS 54
abbrev NLMarks : List Str := ["_law_facts_here", "_law_numbers", "_law_number"]
theorem scLMarks : FnScope NLMarks ["_law_facts_here", "_law_numbers"] (defScope sLMarks) := ⟨rfl, rfl, rfl, by decide +kernel, rfl, by decide +kernel, by decide +kernel⟩
def tLMarks (K : PySem.W.Frag) (C : Addr) : TS :=
  (tRet (tCall (PLClose K C) [] L2.E0 (tCons (tLstRg (tRg1 (tOp (rIx K) (tVar 0) (tC (.int 0))))) (tCons (tLc (iList K (tVar 1)) (gName 2) tYes (tOp (rIx K) (tOp (rIx K) (tVar 0) (tC (.int 1))) (tVar 2)) [2]) tNil))))
set_option maxHeartbeats 8000000 in
theorem dvLMarks {P : Program} {w : World} {K : PySem.W.Frag} {mg : Str → Option Value} {base : Heap} {C aW aP : Addr} {f : Addr} {cdv : Value} {A : Around} {outer : List Env} {s : Shared} {H : Hp} {E : XK} {k : Nat} (T : Bl K w mg C aW aP) {jLClose : Nat} (cLClose : Cl P w K mg base jLClose "_law_close" (PLClose K C)) (hjLClose : jLClose ≤ k) (hr : Room k (A.deeper (envOfC "_law_marks" (defScope sLMarks) s.heap.objs.size f cdv))) :
    PSs (cxOf L2.CX0 P w K mg base NLMarks "_law_marks" (defScope sLMarks) f cdv A outer s H E).nox (defBody sLMarks) (tLMarks K C) :=
  (pss_one (ps_ret (pe_d cLClose hr (by omega) (by rfl) (pa_cons (pe_listRg rfl (by rfl) T.list_ (prg_1 (by rfl) T.range_ (pe_ix ix_seq (pv 0) pe_int (fun _ _ => rfl)))) (pa_cons (pe_lc (own := [("_law_number", 2)]) (g := (gName 2)) (tt := tYes) (te := (tOp (rIx K) (tOp (rIx K) (tVar 0) (tC (.int 1))) (tVar 2))) rfl scLMarks.nd (pi_list (pv 1)) (blkOk_by (N := NLMarks) (sc := (defScope sLMarks)) (own := [("_law_number", 2)]) (by decide +kernel)) (fun _ _ _ _ _ => (pg_name (i := 2) scLMarks.nd rfl (Or.inl rfl))) (fun _ _ _ _ _ => pts_nil) (fun _ _ _ _ _ => (pe_ix ix_seq (pe_ix ix_seq (pv 0) pe_int (fun _ _ => rfl)) (pv 2) (fun _ _ => rfl)))) pa_nil)))))
abbrev sLMarksT : Stmt := topS 54
abbrev NLMarksT : List Str := ["_law_facts_here", "_law_numbers", "_law_number"]
theorem scLMarksT : FnScope NLMarksT ["_law_facts_here", "_law_numbers"] (defScope sLMarksT) := ⟨rfl, rfl, rfl, by decide +kernel, rfl, by decide +kernel, by decide +kernel⟩
def tLMarksT (K : PySem.W.Frag) (C : Addr) : TS :=
  (tRet (tCall (PLClose K C) [] L2.E0 (tCons (tLstRg (tRg1 (tOp (rIx K) (tVar 0) (tC (.int 0))))) (tCons (tLc (iTup K (tVar 1)) (gName 2) tYes (tOp (rIx K) (tOp (rIx K) (tVar 0) (tC (.int 1))) (tVar 2)) [2]) tNil))))
set_option maxHeartbeats 8000000 in
theorem dvLMarksT {P : Program} {w : World} {K : PySem.W.Frag} {mg : Str → Option Value} {base : Heap} {C aW aP : Addr} {f : Addr} {cdv : Value} {A : Around} {outer : List Env} {s : Shared} {H : Hp} {E : XK} {k : Nat} (T : Bl K w mg C aW aP) {jLClose : Nat} (cLClose : Cl P w K mg base jLClose "_law_close" (PLClose K C)) (hjLClose : jLClose ≤ k) (hr : Room k (A.deeper (envOfC "_law_marks" (defScope sLMarksT) s.heap.objs.size f cdv))) :
    PSs (cxOf L2.CX0 P w K mg base NLMarksT "_law_marks" (defScope sLMarksT) f cdv A outer s H E).nox (defBody sLMarksT) (tLMarksT K C) :=
  (pss_one (ps_ret (pe_d cLClose hr (by omega) (by rfl) (pa_cons (pe_listRg rfl (by rfl) T.list_ (prg_1 (by rfl) T.range_ (pe_ix ix_seq (pv 0) pe_int (fun _ _ => rfl)))) (pa_cons (pe_lc (own := [("_law_number", 2)]) (g := (gName 2)) (tt := tYes) (te := (tOp (rIx K) (tOp (rIx K) (tVar 0) (tC (.int 1))) (tVar 2))) rfl scLMarksT.nd (pi_tup (pv 1)) (blkOk_by (N := NLMarksT) (sc := (defScope sLMarksT)) (own := [("_law_number", 2)]) (by decide +kernel)) (fun _ _ _ _ _ => (pg_name (i := 2) scLMarksT.nd rfl (Or.inl rfl))) (fun _ _ _ _ _ => pts_nil) (fun _ _ _ _ _ => (pe_ix ix_seq (pe_ix ix_seq (pv 0) pe_int (fun _ _ => rfl)) (pv 2) (fun _ _ => rfl)))) pa_nil)))))
abbrev sLAllMarks : Stmt := topS 55
abbrev NLAllMarks : List Str := ["_law_facts_here"]
theorem scLAllMarks : FnScope NLAllMarks ["_law_facts_here"] (defScope sLAllMarks) := ⟨rfl, rfl, rfl, by decide +kernel, rfl, by decide +kernel, by decide +kernel⟩
def tLAllMarks (K : PySem.W.Frag) (C : Addr) : TS :=
  (tRet (tCall (PLMarks K C) [] L2.E0 (tCons (tVar 0) (tCons (tLstRg (tRg1 (tCB (rLenK K) (tCons (tOp (rIx K) (tVar 0) (tC (.int 1))) tNil)))) tNil))))
set_option maxHeartbeats 8000000 in
theorem dvLAllMarks {P : Program} {w : World} {K : PySem.W.Frag} {mg : Str → Option Value} {base : Heap} {C aW aP : Addr} {f : Addr} {cdv : Value} {A : Around} {outer : List Env} {s : Shared} {H : Hp} {E : XK} {k : Nat} (T : Bl K w mg C aW aP) {jLMarks : Nat} (cLMarks : Cl P w K mg base jLMarks "_law_marks" (PLMarks K C)) (hjLMarks : jLMarks ≤ k) (hr : Room k (A.deeper (envOfC "_law_all_marks" (defScope sLAllMarks) s.heap.objs.size f cdv))) :
    PSs (cxOf L2.CX0 P w K mg base NLAllMarks "_law_all_marks" (defScope sLAllMarks) f cdv A outer s H E).nox (defBody sLAllMarks) (tLAllMarks K C) :=
  (pss_one (ps_ret (pe_d cLMarks hr (by omega) (by rfl) (pa_cons (pv 0) (pa_cons (pe_listRg rfl (by rfl) T.list_ (prg_1 (by rfl) T.range_ (pe_callB call_len_seq (by rfl) T.len_ PySem.boot_len (pa_cons (pe_ix ix_seq (pv 0) pe_int (fun _ _ => rfl)) pa_nil)))) pa_nil)))))
abbrev sLLots : Stmt := topS 56
abbrev NLLots : List Str := ["_law_many", "_law_found", "_law_number", "_law_size", "_law_lot"]
theorem scLLots : FnScope NLLots ["_law_many"] (defScope sLLots) := ⟨rfl, rfl, rfl, by decide +kernel, rfl, by decide +kernel, by decide +kernel⟩
def tLLots (K : PySem.W.Frag) (C : Addr) : TS :=
  (tSeq (tAsg (tLst (tCons (tTup tNil) tNil)) (gName 1))
    (tSeq (tFor (iRng1 (tCons (tVar 0) tNil)) (gName 2) (tAsg (tOp rCat (tVar 1) (tLc (iList K (tVar 1)) (gName 4) tYes (tOp (rCatA K) (tVar 4) (tTup (tCons (tVar 2) tNil))) [4])) (gName 1)))
    (tRet (tLc (iList K (tCB (rSortedD K) (tCons (tLc (iList K (tVar 1)) (gName 4) tYes (tTup (tCons (tCB (rLenK K) (tCons (tVar 4) tNil)) (tCons (tVar 4) tNil))) [4]) tNil))) (gTup K 2 (gCons (gName 3) (gCons (gName 4) gNil))) tYes (tVar 4) [3, 4]))))
set_option maxHeartbeats 8000000 in
theorem dvLLots {P : Program} {w : World} {K : PySem.W.Frag} {mg : Str → Option Value} {base : Heap} {C aW aP : Addr} {f : Addr} {cdv : Value} {A : Around} {outer : List Env} {s : Shared} {H : Hp} {E : XK} {k : Nat} (T : Bl K w mg C aW aP)  (hr : Room k (A.deeper (envOfC "_law_lots" (defScope sLLots) s.heap.objs.size f cdv))) :
    PSs (cxOf L2.CX0 P w K mg base NLLots "_law_lots" (defScope sLLots) f cdv A outer s H E).nox (defBody sLLots) (tLLots K C) :=
  (pss_cons (ps_set (i := 1) scLLots.nd rfl (Or.inl rfl) (pe_lst (pa_cons (pe_tup pa_nil) pa_nil)))
    (pss_cons (ps_for PassesOwn.never rfl (pi_range1 (by rfl) T.range_ (pa_cons (pv 0) pa_nil)) (pg_name (i := 2) scLLots.nd rfl (Or.inr rfl)) (pss_one (ps_set (i := 1) scLLots.nd rfl (Or.inl rfl) (pe_op op_cat (pv 1) (pe_lc (own := [("_law_lot", 4)]) (g := (gName 4)) (tt := tYes) (te := (tOp (rCatA K) (tVar 4) (tTup (tCons (tVar 2) tNil)))) rfl scLLots.nd (pi_list (pv 1)) (blkOk_by (N := NLLots) (sc := (defScope sLLots)) (own := [("_law_lot", 4)]) (by decide +kernel)) (fun _ _ _ _ _ => (pg_name (i := 4) scLLots.nd rfl (Or.inl rfl))) (fun _ _ _ _ _ => pts_nil) (fun _ _ _ _ _ => (pe_op op_catA (pv 4) (pe_tup (pa_cons (pv 2) pa_nil)))))))))
    (pss_one (ps_ret (pe_lc (own := [("_law_size", 3), ("_law_lot", 4)]) (g := (gTup K 2 (gCons (gName 3) (gCons (gName 4) gNil)))) (tt := tYes) (te := (tVar 4)) rfl scLLots.nd (pi_list (pe_callB (cr_sortedD hr) (by rfl) T.sorted_ (by decide +kernel) (pa_cons (pe_lc (own := [("_law_lot", 4)]) (g := (gName 4)) (tt := tYes) (te := (tTup (tCons (tCB (rLenK K) (tCons (tVar 4) tNil)) (tCons (tVar 4) tNil)))) rfl scLLots.nd (pi_list (pv 1)) (blkOk_by (N := NLLots) (sc := (defScope sLLots)) (own := [("_law_lot", 4)]) (by decide +kernel)) (fun _ _ _ _ _ => (pg_name (i := 4) scLLots.nd rfl (Or.inl rfl))) (fun _ _ _ _ _ => pts_nil) (fun _ _ _ _ _ => (pe_tup (pa_cons (pe_callB call_len_seq (by rfl) T.len_ PySem.boot_len (pa_cons (pv 4) pa_nil)) (pa_cons (pv 4) pa_nil))))) pa_nil))) (blkOk_by (N := NLLots) (sc := (defScope sLLots)) (own := [("_law_size", 3), ("_law_lot", 4)]) (by decide +kernel)) (fun _ _ _ _ _ => (pg_tup rfl (pgs_cons (pg_name (i := 3) scLLots.nd rfl (Or.inl rfl)) (pgs_cons (pg_name (i := 4) scLLots.nd rfl (Or.inl rfl)) pgs_nil)))) (fun _ _ _ _ _ => pts_nil) (fun _ _ _ _ _ => (pv 4)))))))
abbrev sLClash : Stmt := topS 57
abbrev NLClash : List Str := ["_law_facts_here", "_law_lot", "_law_marks_here", "_law_some", "_law_one", "_law_other", "_law_number"]
theorem scLClash : FnScope NLClash ["_law_facts_here"] (defScope sLClash) := ⟨rfl, rfl, rfl, by decide +kernel, rfl, by decide +kernel, by decide +kernel⟩
def tLClash (K : PySem.W.Frag) (C : Addr) : TS :=
  (tSeq (tIfS (tTest (tOp (rEqD K) (tLc (iTup K (tOp (rIx K) (tVar 0) (tC (.int 2)))) (gTup K 2 (gCons (gName 4) (gCons (gName 5) gNil))) (tTest (tOp (rEqD K) (tOp (rIx K) (tCall (PLAllMarks K C) [] L2.E0 (tCons (tVar 0) tNil)) (tVar 4)) (tOp (rIx K) (tCall (PLAllMarks K C) [] L2.E0 (tCons (tVar 0) tNil)) (tVar 5)))) (tC (.int 1)) [4, 5]) (tLst tNil))) (tRet (tC .non)) tNext)
    (tSeq (tFor (iList K (tCall (PLLots K C) [] L2.E0 (tCons (tCB (rLenK K) (tCons (tOp (rIx K) (tVar 0) (tC (.int 1))) tNil)) tNil))) (gName 1) (tSeq (tAsg (tCall (PLMarksT K C) [] L2.E0 (tCons (tVar 0) (tCons (tVar 1) tNil))) (gName 2))
    (tSeq (tAsg (tLc (iEnumT K (tCons (tOp (rIx K) (tVar 0) (tC (.int 2))) tNil)) (gTup K 2 (gCons (gName 6) (gCons (gTup K 2 (gCons (gName 4) (gCons (gName 5) gNil))) gNil))) (tTest (tOp (rEqD K) (tOp (rIx K) (tVar 2) (tVar 4)) (tOp (rIx K) (tVar 2) (tVar 5)))) (tVar 6) [6, 4, 5]) (gName 3))
    (tIfS (tTest (tOp (rNeD K) (tVar 3) (tLst tNil))) (tRet (tTup (tCons (tOp (rIx K) (tVar 3) (tC (.int 0))) (tCons (tVar 1) tNil)))) tNext))))
    (tRet (tC .non))))
set_option maxHeartbeats 8000000 in
theorem dvLClash {P : Program} {w : World} {K : PySem.W.Frag} {mg : Str → Option Value} {base : Heap} {C aW aP : Addr} {f : Addr} {cdv : Value} {A : Around} {outer : List Env} {s : Shared} {H : Hp} {E : XK} {k : Nat} (T : Bl K w mg C aW aP) {jLMarks : Nat} (cLMarks : Cl P w K mg base jLMarks "_law_marks" (PLMarksT K C)) (hjLMarks : jLMarks ≤ k)
    {jLAllMarks : Nat} (cLAllMarks : Cl P w K mg base jLAllMarks "_law_all_marks" (PLAllMarks K C)) (hjLAllMarks : jLAllMarks ≤ k)
    {jLLots : Nat} (cLLots : Cl P w K mg base jLLots "_law_lots" (PLLots K C)) (hjLLots : jLLots ≤ k) (hr : Room k (A.deeper (envOfC "_law_clash" (defScope sLClash) s.heap.objs.size f cdv))) :
    PSs (cxOf L2.CX0 P w K mg base NLClash "_law_clash" (defScope sLClash) f cdv A outer s H E).nox (defBody sLClash) (tLClash K C) :=
  (pss_cons (ps_if (pt_cmpR (op_eqD hr.units) (pe_lc (own := [("_law_one", 4), ("_law_other", 5)]) (g := (gTup K 2 (gCons (gName 4) (gCons (gName 5) gNil)))) (tt := (tTest (tOp (rEqD K) (tOp (rIx K) (tCall (PLAllMarks K C) [] L2.E0 (tCons (tVar 0) tNil)) (tVar 4)) (tOp (rIx K) (tCall (PLAllMarks K C) [] L2.E0 (tCons (tVar 0) tNil)) (tVar 5))))) (te := (tC (.int 1))) rfl scLClash.nd (pi_tup (pe_ix ix_seq (pv 0) pe_int (fun _ _ => rfl))) (blkOk_by (N := NLClash) (sc := (defScope sLClash)) (own := [("_law_one", 4), ("_law_other", 5)]) (by decide +kernel)) (fun _ _ _ _ _ => (pg_tup rfl (pgs_cons (pg_name (i := 4) scLClash.nd rfl (Or.inl rfl)) (pgs_cons (pg_name (i := 5) scLClash.nd rfl (Or.inl rfl)) pgs_nil)))) (fun _ _ _ _ _ => (pts_one (pt_cmpR (op_eqD hr.units) (pe_ix ix_seq (pe_d cLAllMarks hr (by omega) (by rfl) (pa_cons (pv 0) pa_nil)) (pv 4) (fun _ _ => rfl)) (pe_ix ix_seq (pe_d cLAllMarks hr (by omega) (by rfl) (pa_cons (pv 0) pa_nil)) (pv 5) (fun _ _ => rfl)) (nomark _)))) (fun _ _ _ _ _ => pe_int)) (pe_lst pa_nil) (nomark _)) (pss_one (ps_ret pe_non)) pss_nil)
    (pss_cons (ps_for PassesOwn.never rfl (pi_list (pe_d cLLots hr (by omega) (by rfl) (pa_cons (pe_callB call_len_seq (by rfl) T.len_ PySem.boot_len (pa_cons (pe_ix ix_seq (pv 0) pe_int (fun _ _ => rfl)) pa_nil)) pa_nil))) (pg_name (i := 1) scLClash.nd rfl (Or.inl rfl)) (pss_cons (ps_set (i := 2) scLClash.nd rfl (Or.inr rfl) (pe_d cLMarks hr (by omega) (by rfl) (pa_cons (pv 0) (pa_cons (pv 1) pa_nil))))
    (pss_cons (ps_setLc (i := 3) (own := [("_law_number", 6), ("_law_one", 4), ("_law_other", 5)]) (g := (gTup K 2 (gCons (gName 6) (gCons (gTup K 2 (gCons (gName 4) (gCons (gName 5) gNil))) gNil)))) (tt := (tTest (tOp (rEqD K) (tOp (rIx K) (tVar 2) (tVar 4)) (tOp (rIx K) (tVar 2) (tVar 5))))) (te := (tVar 6)) rfl scLClash.nd rfl rfl (sw_true rfl rfl rfl (by decide +kernel)) (pi_enumT (by rfl) T.enumerate_ (pa_cons (pe_ix ix_seq (pv 0) pe_int (fun _ _ => rfl)) pa_nil)) (blkOk_by (N := NLClash) (sc := (defScope sLClash)) (own := [("_law_number", 6), ("_law_one", 4), ("_law_other", 5)]) (by decide +kernel)) (fun _ _ _ _ _ => (pg_tup rfl (pgs_cons (pg_name (i := 6) scLClash.nd rfl (Or.inl rfl)) (pgs_cons (pg_tup rfl (pgs_cons (pg_name (i := 4) scLClash.nd rfl (Or.inl rfl)) (pgs_cons (pg_name (i := 5) scLClash.nd rfl (Or.inl rfl)) pgs_nil))) pgs_nil)))) (fun _ _ _ _ _ => (pts_one (pt_cmpR (op_eqD hr.units) (pe_ix ix_seq (pv 2) (pv 4) (fun _ _ => rfl)) (pe_ix ix_seq (pv 2) (pv 5) (fun _ _ => rfl)) (nomark _)))) (fun _ _ _ _ _ => (pv 6)))
    (pss_one (ps_if (pt_cmpR (op_neD hr.units) (pv 3) (pe_lst pa_nil) (nomark _)) (pss_one (ps_ret (pe_tup (pa_cons (pe_ix ix_seq (pv 3) pe_int (fun _ _ => rfl)) (pa_cons (pv 1) pa_nil))))) pss_nil)))))
    (pss_one (ps_ret pe_non))))
abbrev sLMove : Stmt := topS 63
abbrev NLMove : List Str := ["_law_marks_here", "_law_rows_here", "_law_one", "_law_other", "_law_long", "_law_short", "_law_word", "_law_first", "_law_second", "_law_here", "_law_there", "_law_last", "_law_row"]
theorem scLMove : FnScope NLMove ["_law_marks_here", "_law_rows_here", "_law_one", "_law_other"] (defScope sLMove) := ⟨rfl, rfl, rfl, by decide +kernel, rfl, by decide +kernel, by decide +kernel⟩
def tLMove (K : PySem.W.Frag) (C : Addr) : TS :=
  (tSeq (tIfS (tAnd (tB (tCB (rIsi K) (tCons (tVar 2) (tCons (tC (.ty "int")) tNil)))) (tB (tCB (rIsi K) (tCons (tVar 3) (tCons (tC (.ty "int")) tNil))))) (tRet (tAndV (tOp (rNeD K) (tVar 2) (tVar 3)) (tOp (rEqD K) (tOp (rIx K) (tVar 0) (tVar 2)) (tOp (rIx K) (tVar 0) (tVar 3))))) tNext)
    (tSeq (tFor (iList K (tLst (tCons (tTup (tCons (tVar 2) (tCons (tVar 3) tNil))) (tCons (tTup (tCons (tVar 3) (tCons (tVar 2) tNil))) tNil)))) (gTup K 2 (gCons (gName 4) (gCons (gName 5) gNil))) (tIfS (tNot (tB (tCB (rIsi K) (tCons (tVar 4) (tCons (tC (.ty "int")) tNil))))) (tSeq (tAsg (tVar 4) (gTup K 3 (gCons (gName 6) (gCons (gName 7) (gCons (gName 8) gNil)))))
    (tSeq (tAsg (tDGet (tDisp (((tC (.str "with")), (tTup (tCons (tC (.int 0)) (tCons (tC (.int 1)) (tCons (tC (.int 2)) tNil))))) :: (((tC (.str "behind")), (tTup (tCons (tC (.int 0)) (tCons (tC (.int 2)) (tCons (tC (.int 1)) tNil))))) :: (((tC (.str "ahead")), (tTup (tCons (tC (.int 1)) (tCons (tC (.int 2)) (tCons (tC (.int 0)) tNil))))) :: [])))) (tVar 6)) (gTup K 3 (gCons (gName 9) (gCons (gName 10) (gCons (gName 11) gNil)))))
    (tSeq (tIfS (tAnd (tB (tCB (rIsi K) (tCons (tVar 7) (tCons (tC (.ty "int")) tNil)))) (tAnd (tB (tCB (rIsi K) (tCons (tVar 8) (tCons (tC (.ty "int")) tNil)))) (tB (tCB (rIsi K) (tCons (tVar 5) (tCons (tC (.ty "int")) tNil)))))) (tIfS (tTest (tOp (rNeD K) (tLc (iList K (tVar 1)) (gName 12) (tTest (tOp (rEqD K) (tTup (tCons (tOp (rIx K) (tVar 12) (tVar 9)) (tCons (tOp (rIx K) (tVar 12) (tVar 10)) (tCons (tOp (rIx K) (tVar 12) (tVar 11)) tNil)))) (tTup (tCons (tOp (rIx K) (tVar 0) (tVar 7)) (tCons (tOp (rIx K) (tVar 0) (tVar 8)) (tCons (tOp (rIx K) (tVar 0) (tVar 5)) tNil)))))) (tC (.int 1)) [12]) (tLst tNil))) (tRet (tC (.bl true))) tNext) tNext)
    (tIfS (tTest (tOp (rInD K) (tTup (tCons (tVar 4) (tCons (tVar 5) tNil))) (tCall (PLRules K C) [] L2.E0 (tCons (tVar 6) (tCons (tVar 7) (tCons (tVar 8) tNil)))))) (tRet (tC (.bl true))) tNext)))) tNext))
    (tRet (tC (.bl false)))))
set_option maxHeartbeats 8000000 in
theorem dvLMove {P : Program} {w : World} {K : PySem.W.Frag} {mg : Str → Option Value} {base : Heap} {C aW aP : Addr} {f : Addr} {cdv : Value} {A : Around} {outer : List Env} {s : Shared} {H : Hp} {E : XK} {k : Nat} (T : Bl K w mg C aW aP) {jLRules : Nat} (cLRules : Cl P w K mg base jLRules "_law_rules" (PLRules K C)) (hjLRules : jLRules ≤ k) (hr : Room k (A.deeper (envOfC "_law_move" (defScope sLMove) s.heap.objs.size f cdv))) :
    PSs (cxOf L2.CX0 P w K mg base NLMove "_law_move" (defScope sLMove) f cdv A outer s H E).nox (defBody sLMove) (tLMove K C) :=
  (pss_cons (ps_if (PW.pt (pw_and (pt_val (pe_callB call_isi (by rfl) T.isinstance_ (by decide +kernel) (pa_cons (pv 2) (pa_cons (pe_bltn (v := .ty "int") (by rfl) T.int_ boot_int rfl) pa_nil)))) (pw_and1 (pt_val (pe_callB call_isi (by rfl) T.isinstance_ (by decide +kernel) (pa_cons (pv 3) (pa_cons (pe_bltn (v := .ty "int") (by rfl) T.int_ boot_int rfl) pa_nil))))))) (pss_one (ps_ret (pe_and (pe_cmpR (op_neD hr.units) (pv 2) (pv 3) (nomark _)) (pe_one (pe_cmpR (op_eqD hr.units) (pe_ix ix_seq (pv 0) (pv 2) (fun _ _ => rfl)) (pe_ix ix_seq (pv 0) (pv 3) (fun _ _ => rfl)) (nomark _)))))) pss_nil)
    (pss_cons (ps_for PassesOwn.never rfl (pi_list (pe_lst (pa_cons (pe_tup (pa_cons (pv 2) (pa_cons (pv 3) pa_nil))) (pa_cons (pe_tup (pa_cons (pv 3) (pa_cons (pv 2) pa_nil))) pa_nil)))) (pg_tup rfl (pgs_cons (pg_name (i := 4) scLMove.nd rfl (Or.inl rfl)) (pgs_cons (pg_name (i := 5) scLMove.nd rfl (Or.inr rfl)) pgs_nil))) (pss_one (ps_if (pt_not (pt_val (pe_callB call_isi (by rfl) T.isinstance_ (by decide +kernel) (pa_cons (pv 4) (pa_cons (pe_bltn (v := .ty "int") (by rfl) T.int_ boot_int rfl) pa_nil))))) (pss_cons (ps_asg (pv 4) (pg_tup rfl (pgs_cons (pg_name (i := 6) scLMove.nd rfl (Or.inl rfl)) (pgs_cons (pg_name (i := 7) scLMove.nd rfl (Or.inr rfl)) (pgs_cons (pg_name (i := 8) scLMove.nd rfl (Or.inr rfl)) pgs_nil)))))
    (pss_cons (ps_asg (pe_dget (hu_of hr) (pe_disp (pps_cons pe_str (pe_tup (pa_cons pe_int (pa_cons pe_int (pa_cons pe_int pa_nil)))) (pps_cons pe_str (pe_tup (pa_cons pe_int (pa_cons pe_int (pa_cons pe_int pa_nil)))) (pps_cons pe_str (pe_tup (pa_cons pe_int (pa_cons pe_int (pa_cons pe_int pa_nil)))) pps_nil))) (by rfl) (by rfl) (fun z => by cases z) (by decide)) (pv 6) (fun _ _ => rfl)) (pg_tup rfl (pgs_cons (pg_name (i := 9) scLMove.nd rfl (Or.inr rfl)) (pgs_cons (pg_name (i := 10) scLMove.nd rfl (Or.inr rfl)) (pgs_cons (pg_name (i := 11) scLMove.nd rfl (Or.inr rfl)) pgs_nil)))))
    (pss_cons (ps_if (PW.pt (pw_and (pt_val (pe_callB call_isi (by rfl) T.isinstance_ (by decide +kernel) (pa_cons (pv 7) (pa_cons (pe_bltn (v := .ty "int") (by rfl) T.int_ boot_int rfl) pa_nil)))) (pw_and (pt_val (pe_callB call_isi (by rfl) T.isinstance_ (by decide +kernel) (pa_cons (pv 8) (pa_cons (pe_bltn (v := .ty "int") (by rfl) T.int_ boot_int rfl) pa_nil)))) (pw_and1 (pt_val (pe_callB call_isi (by rfl) T.isinstance_ (by decide +kernel) (pa_cons (pv 5) (pa_cons (pe_bltn (v := .ty "int") (by rfl) T.int_ boot_int rfl) pa_nil)))))))) (pss_one (ps_if (pt_cmpR (op_neD hr.units) (pe_lc (own := [("_law_row", 12)]) (g := (gName 12)) (tt := (tTest (tOp (rEqD K) (tTup (tCons (tOp (rIx K) (tVar 12) (tVar 9)) (tCons (tOp (rIx K) (tVar 12) (tVar 10)) (tCons (tOp (rIx K) (tVar 12) (tVar 11)) tNil)))) (tTup (tCons (tOp (rIx K) (tVar 0) (tVar 7)) (tCons (tOp (rIx K) (tVar 0) (tVar 8)) (tCons (tOp (rIx K) (tVar 0) (tVar 5)) tNil))))))) (te := (tC (.int 1))) rfl scLMove.nd (pi_list (pv 1)) (blkOk_by (N := NLMove) (sc := (defScope sLMove)) (own := [("_law_row", 12)]) (by decide +kernel)) (fun _ _ _ _ _ => (pg_name (i := 12) scLMove.nd rfl (Or.inl rfl))) (fun _ _ _ _ _ => (pts_one (pt_cmpR (op_eqD hr.units) (pe_tup (pa_cons (pe_ix ix_seq (pv 12) (pv 9) (fun _ _ => rfl)) (pa_cons (pe_ix ix_seq (pv 12) (pv 10) (fun _ _ => rfl)) (pa_cons (pe_ix ix_seq (pv 12) (pv 11) (fun _ _ => rfl)) pa_nil)))) (pe_tup (pa_cons (pe_ix ix_seq (pv 0) (pv 7) (fun _ _ => rfl)) (pa_cons (pe_ix ix_seq (pv 0) (pv 8) (fun _ _ => rfl)) (pa_cons (pe_ix ix_seq (pv 0) (pv 5) (fun _ _ => rfl)) pa_nil)))) (nomark _)))) (fun _ _ _ _ _ => pe_int)) (pe_lst pa_nil) (nomark _)) (pss_one (ps_ret pe_bl)) pss_nil)) pss_nil)
    (pss_one (ps_if (pt_cmpR (op_inD hr.units65) (pe_tup (pa_cons (pv 4) (pa_cons (pv 5) pa_nil))) (pe_d cLRules hr (by omega) (by rfl) (pa_cons (pv 6) (pa_cons (pv 7) (pa_cons (pv 8) pa_nil)))) (by rfl)) (pss_one (ps_ret pe_bl)) pss_nil))))) pss_nil)))
    (pss_one (ps_ret pe_bl))))
abbrev sLIsStep : Stmt := topS 64
abbrev NLIsStep : List Str := ["_law_marks_here", "_law_rows_here", "_law_one", "_law_other"]
theorem scLIsStep : FnScope NLIsStep ["_law_marks_here", "_law_rows_here", "_law_one", "_law_other"] (defScope sLIsStep) := ⟨rfl, rfl, rfl, by decide +kernel, rfl, by decide +kernel, by decide +kernel⟩
def tLIsStep (K : PySem.W.Frag) (C : Addr) (nLIsStep : Nat) : TS :=
  (tSeq (tIfS (tB (tCall (PLMove K C) [] L2.E0 (tCons (tVar 0) (tCons (tVar 1) (tCons (tVar 2) (tCons (tVar 3) tNil)))))) (tRet (tC (.bl true))) tNext)
    (tSeq (tIfS (tOr (tB (tCB (rIsi K) (tCons (tVar 2) (tCons (tC (.ty "int")) tNil)))) (tOr (tB (tCB (rIsi K) (tCons (tVar 3) (tCons (tC (.ty "int")) tNil)))) (tTest (tOp (rNeD K) (tOp (rIx K) (tVar 2) (tC (.int 0))) (tOp (rIx K) (tVar 3) (tC (.int 0))))))) (tRet (tC (.bl false))) tNext)
    (tSeq (tIfS (tAnd (tTest (tOp (rEqD K) (tOp (rIx K) (tVar 2) (tC (.int 1))) (tOp (rIx K) (tVar 3) (tC (.int 1))))) (tB (tCall (PLIsStep K C nLIsStep) [] L2.E0 (tCons (tVar 0) (tCons (tVar 1) (tCons (tOp (rIx K) (tVar 2) (tC (.int 2))) (tCons (tOp (rIx K) (tVar 3) (tC (.int 2))) tNil))))))) (tRet (tC (.bl true))) tNext)
    (tRet (tAndV (tOp (rEqD K) (tOp (rIx K) (tVar 2) (tC (.int 2))) (tOp (rIx K) (tVar 3) (tC (.int 2)))) (tCall (PLIsStep K C nLIsStep) [] L2.E0 (tCons (tVar 0) (tCons (tVar 1) (tCons (tOp (rIx K) (tVar 2) (tC (.int 1))) (tCons (tOp (rIx K) (tVar 3) (tC (.int 1))) tNil))))))))))
set_option maxHeartbeats 8000000 in
theorem dvLIsStep {P : Program} {w : World} {K : PySem.W.Frag} {mg : Str → Option Value} {base : Heap} {C aW aP : Addr} {f : Addr} {cdv : Value} {A : Around} {outer : List Env} {s : Shared} {H : Hp} {E : XK} {k : Nat} {nLIsStep : Nat} (T : Bl K w mg C aW aP) {jLMove : Nat} (cLMove : Cl P w K mg base jLMove "_law_move" (PLMove K C)) (hjLMove : jLMove ≤ k)
    {jLIsStep : Nat} (cLIsStep : Cl P w K mg base jLIsStep "_law_is_step" (PLIsStep K C nLIsStep)) (hjLIsStep : jLIsStep ≤ k) (hr : Room k (A.deeper (envOfC "_law_is_step" (defScope sLIsStep) s.heap.objs.size f cdv))) :
    PSs (cxOf L2.CX0 P w K mg base NLIsStep "_law_is_step" (defScope sLIsStep) f cdv A outer s H E).nox (defBody sLIsStep) (tLIsStep K C nLIsStep) :=
  (pss_cons (ps_if (pt_val (pe_d cLMove hr (by omega) (by rfl) (pa_cons (pv 0) (pa_cons (pv 1) (pa_cons (pv 2) (pa_cons (pv 3) pa_nil)))))) (pss_one (ps_ret pe_bl)) pss_nil)
    (pss_cons (ps_if (PW.pt (pw_or (pt_val (pe_callB call_isi (by rfl) T.isinstance_ (by decide +kernel) (pa_cons (pv 2) (pa_cons (pe_bltn (v := .ty "int") (by rfl) T.int_ boot_int rfl) pa_nil)))) (pw_or (pt_val (pe_callB call_isi (by rfl) T.isinstance_ (by decide +kernel) (pa_cons (pv 3) (pa_cons (pe_bltn (v := .ty "int") (by rfl) T.int_ boot_int rfl) pa_nil)))) (pw_or1 (pt_cmpR (op_neD hr.units) (pe_ix ix_seq (pv 2) pe_int (fun _ _ => rfl)) (pe_ix ix_seq (pv 3) pe_int (fun _ _ => rfl)) (nomark _)))))) (pss_one (ps_ret pe_bl)) pss_nil)
    (pss_cons (ps_if (PW.pt (pw_and (pt_cmpR (op_eqD hr.units) (pe_ix ix_seq (pv 2) pe_int (fun _ _ => rfl)) (pe_ix ix_seq (pv 3) pe_int (fun _ _ => rfl)) (nomark _)) (pw_and1 (pt_val (pe_d cLIsStep hr (by omega) (by rfl) (pa_cons (pv 0) (pa_cons (pv 1) (pa_cons (pe_ix ix_seq (pv 2) pe_int (fun _ _ => rfl)) (pa_cons (pe_ix ix_seq (pv 3) pe_int (fun _ _ => rfl)) pa_nil))))))))) (pss_one (ps_ret pe_bl)) pss_nil)
    (pss_one (ps_ret (pe_and (pe_cmpR (op_eqD hr.units) (pe_ix ix_seq (pv 2) pe_int (fun _ _ => rfl)) (pe_ix ix_seq (pv 3) pe_int (fun _ _ => rfl)) (nomark _)) (pe_one (pe_d cLIsStep hr (by omega) (by rfl) (pa_cons (pv 0) (pa_cons (pv 1) (pa_cons (pe_ix ix_seq (pv 2) pe_int (fun _ _ => rfl)) (pa_cons (pe_ix ix_seq (pv 3) pe_int (fun _ _ => rfl)) pa_nil))))))))))))
abbrev sLIsRoad : Stmt := topS 65
abbrev NLIsRoad : List Str := ["_law_facts_here", "_law_marks_here", "_law_rows_here", "_law_one", "_law_other", "_law_value", "_law_own", "_law_here", "_law_there"]
theorem scLIsRoad : FnScope NLIsRoad ["_law_facts_here", "_law_marks_here", "_law_rows_here", "_law_one", "_law_other", "_law_value"] (defScope sLIsRoad) := ⟨rfl, rfl, rfl, by decide +kernel, rfl, by decide +kernel, by decide +kernel⟩
def tLIsRoad (K : PySem.W.Frag) (C : Addr) (aW aP : Addr) (nLIsStep : Nat) : TS :=
  (tSeq (tIfS (tOr (tNot (tB (tCB (rIsi K) (tCons (tVar 5) (tCons (tC (.ty "tuple")) tNil))))) (tNot (tTest (tChain (rI0 fun i j => .bl (decide (i ≤ j))) (rI0 fun i j => .bl (decide (i ≤ j))) (tC (.int 1)) (tCB (rLenK K) (tCons (tVar 5) tNil)) (tC (.int 40)))))) (tRet (tC (.bl false))) tNext)
    (tSeq (tIfS (tTest (tOp (rNeD K) (tLc (iTup K (tVar 5)) (gName 6) (tTest (tOp rNotNo (tCall (PLFormulaWord K C) [] L2.E0 (tCons (tOp (rIx K) (tVar 0) (tC (.int 0))) (tCons (tVar 6) tNil))) (tC .non))) (tC (.int 1)) [6]) (tLst tNil))) (tRet (tC (.bl false))) tNext)
    (tSeq (tIfS (tOr (tTest (tOp (rNeD K) (tOp (rIx K) (tVar 5) (tC (.int 0))) (tVar 3))) (tTest (tOp (rNeD K) (tOp (rIx K) (tVar 5) (tUn (rU fun i => .int (-i)) (tC (.int 1)))) (tVar 4)))) (tRet (tC (.bl false))) tNext)
    (tRet (tOp (rEqD K) (tLc (RZ.iZipA K (tCons (tVar 5) (tCons (tSl (rSlA K) (tVar 5) (tPart (tC (.int 1))) tNoPart) tNil))) (gTup K 2 (gCons (gName 7) (gCons (gName 8) gNil))) (tNot (tB (tCall (PLIsStep K C nLIsStep) [] L2.E0 (tCons (tVar 1) (tCons (tVar 2) (tCons (tVar 7) (tCons (tVar 8) tNil))))))) (tC (.int 1)) [7, 8]) (tLst tNil))))))
set_option maxHeartbeats 8000000 in
theorem dvLIsRoad {P : Program} {w : World} {K : PySem.W.Frag} {mg : Str → Option Value} {base : Heap} {C aW aP : Addr} {f : Addr} {cdv : Value} {A : Around} {outer : List Env} {s : Shared} {H : Hp} {E : XK} {k : Nat} {nLIsStep : Nat} (T : Bl K w mg C aW aP) {jLFormulaWord : Nat} (cLFormulaWord : Cl P w K mg base jLFormulaWord "_law_formula_word" (PLFormulaWord K C)) (hjLFormulaWord : jLFormulaWord ≤ k)
    {jLIsStep : Nat} (cLIsStep : Cl P w K mg base jLIsStep "_law_is_step" (PLIsStep K C nLIsStep)) (hjLIsStep : jLIsStep ≤ k) (hr : Room k (A.deeper (envOfC "_law_is_road" (defScope sLIsRoad) s.heap.objs.size f cdv))) :
    PSs (cxOf L2.CX0 P w K mg base NLIsRoad "_law_is_road" (defScope sLIsRoad) f cdv A outer s H E).nox (defBody sLIsRoad) (tLIsRoad K C aW aP nLIsStep) :=
  (pss_cons (ps_if (PW.pt (pw_or (pt_not (pt_val (pe_callB call_isi (by rfl) T.isinstance_ (by decide +kernel) (pa_cons (pv 5) (pa_cons (pe_bltn (v := .ty "tuple") (by rfl) T.tuple_ boot_tuple rfl) pa_nil))))) (pw_or1 (pt_not (pt_chain op_le op_le pe_int (pe_callB call_len_seq (by rfl) T.len_ PySem.boot_len (pa_cons (pv 5) pa_nil)) pe_int))))) (pss_one (ps_ret pe_bl)) pss_nil)
    (pss_cons (ps_if (pt_cmpR (op_neD hr.units) (pe_lc (own := [("_law_own", 6)]) (g := (gName 6)) (tt := (tTest (tOp rNotNo (tCall (PLFormulaWord K C) [] L2.E0 (tCons (tOp (rIx K) (tVar 0) (tC (.int 0))) (tCons (tVar 6) tNil))) (tC .non)))) (te := (tC (.int 1))) rfl scLIsRoad.nd (pi_tup (pv 5)) (blkOk_by (N := NLIsRoad) (sc := (defScope sLIsRoad)) (own := [("_law_own", 6)]) (by decide +kernel)) (fun _ _ _ _ _ => (pg_name (i := 6) scLIsRoad.nd rfl (Or.inl rfl))) (fun _ _ _ _ _ => (pts_one (pt_cmpR op_notN (pe_d cLFormulaWord hr (by omega) (by rfl) (pa_cons (pe_ix ix_seq (pv 0) pe_int (fun _ _ => rfl)) (pa_cons (pv 6) pa_nil))) pe_non (nomark _)))) (fun _ _ _ _ _ => pe_int)) (pe_lst pa_nil) (nomark _)) (pss_one (ps_ret pe_bl)) pss_nil)
    (pss_cons (ps_if (PW.pt (pw_or (pt_cmpR (op_neD hr.units) (pe_ix ix_seq (pv 5) pe_int (fun _ _ => rfl)) (pv 3) (nomark _)) (pw_or1 (pt_cmpR (op_neD hr.units) (pe_ix ix_seq (pv 5) (pe_un un_neg pe_int) (fun _ _ => rfl)) (pv 4) (nomark _))))) (pss_one (ps_ret pe_bl)) pss_nil)
    (pss_one (ps_ret (pe_cmpR (op_eqD hr.units) (pe_lc (own := [("_law_here", 7), ("_law_there", 8)]) (g := (gTup K 2 (gCons (gName 7) (gCons (gName 8) gNil)))) (tt := (tNot (tB (tCall (PLIsStep K C nLIsStep) [] L2.E0 (tCons (tVar 1) (tCons (tVar 2) (tCons (tVar 7) (tCons (tVar 8) tNil)))))))) (te := (tC (.int 1))) rfl scLIsRoad.nd (RZ.pi_zipA (by rfl) T.zip_ (pa_cons (pv 5) (pa_cons (pe_slice sl_tupA (pv 5) (po_some pe_int) po_none) pa_nil))) (blkOk_by (N := NLIsRoad) (sc := (defScope sLIsRoad)) (own := [("_law_here", 7), ("_law_there", 8)]) (by decide +kernel)) (fun _ _ _ _ _ => (pg_tup rfl (pgs_cons (pg_name (i := 7) scLIsRoad.nd rfl (Or.inl rfl)) (pgs_cons (pg_name (i := 8) scLIsRoad.nd rfl (Or.inl rfl)) pgs_nil)))) (fun _ _ _ _ _ => (pts_one (pt_not (pt_val (pe_d cLIsStep hr (by omega) (by rfl) (pa_cons (pv 1) (pa_cons (pv 2) (pa_cons (pv 7) (pa_cons (pv 8) pa_nil))))))))) (fun _ _ _ _ _ => pe_int)) (pe_lst pa_nil) (nomark _)))))))
abbrev sLPlain : Stmt := topS 66
abbrev NLPlain : List Str := ["_law_marks_here", "_law_rows_here", "_law_formula_here", "_law_word", "_law_one", "_law_other", "_law_here", "_law_there", "_law_last", "_law_row", "_law_long", "_law_short"]
theorem scLPlain : FnScope NLPlain ["_law_marks_here", "_law_rows_here", "_law_formula_here"] (defScope sLPlain) := ⟨rfl, rfl, rfl, by decide +kernel, rfl, by decide +kernel, by decide +kernel⟩
def tLPlain (K : PySem.W.Frag) (C : Addr) (nLPlain : Nat) : TS :=
  (tSeq (tIfS (tB (tCB (rIsi K) (tCons (tVar 2) (tCons (tC (.ty "int")) tNil)))) (tRet (tOp (rIx K) (tVar 0) (tVar 2))) tNext)
    (tSeq (tPar3 3 4 5 (tCons (tOp (rIx K) (tVar 2) (tC (.int 0))) (tCons (tCall (PLPlain K C nLPlain) [] L2.E0 (tCons (tVar 0) (tCons (tVar 1) (tCons (tOp (rIx K) (tVar 2) (tC (.int 1))) tNil)))) (tCons (tCall (PLPlain K C nLPlain) [] L2.E0 (tCons (tVar 0) (tCons (tVar 1) (tCons (tOp (rIx K) (tVar 2) (tC (.int 2))) tNil)))) tNil))))
    (tSeq (tAsg (tDGet (tDisp (((tC (.str "with")), (tTup (tCons (tC (.int 0)) (tCons (tC (.int 1)) (tCons (tC (.int 2)) tNil))))) :: (((tC (.str "behind")), (tTup (tCons (tC (.int 0)) (tCons (tC (.int 2)) (tCons (tC (.int 1)) tNil))))) :: (((tC (.str "ahead")), (tTup (tCons (tC (.int 1)) (tCons (tC (.int 2)) (tCons (tC (.int 0)) tNil))))) :: [])))) (tVar 3)) (gTup K 3 (gCons (gName 6) (gCons (gName 7) (gCons (gName 8) gNil)))))
    (tSeq (tFor (iList K (tVar 1)) (gName 9) (tIfS (tAnd (tTest (tOp (rEqD K) (tOp (rIx K) (tVar 9) (tVar 6)) (tVar 4))) (tTest (tOp (rEqD K) (tOp (rIx K) (tVar 9) (tVar 7)) (tVar 5)))) (tRet (tOp (rIx K) (tVar 9) (tVar 8))) tNext))
    (tSeq (tFor (iList K (tCall (PLRules K C) [] L2.E0 (tCons (tVar 3) (tCons (tVar 4) (tCons (tVar 5) tNil))))) (gTup K 2 (gCons (gName 10) (gCons (gName 11) gNil))) (tIfS (tTest (tOp (rEqD K) (tVar 10) (tTup (tCons (tVar 3) (tCons (tVar 4) (tCons (tVar 5) tNil)))))) (tRet (tVar 11)) tNext))
    (tRet (tTup (tCons (tVar 3) (tCons (tVar 4) (tCons (tVar 5) tNil))))))))))
set_option maxHeartbeats 8000000 in
theorem dvLPlain {P : Program} {w : World} {K : PySem.W.Frag} {mg : Str → Option Value} {base : Heap} {C aW aP : Addr} {f : Addr} {cdv : Value} {A : Around} {outer : List Env} {s : Shared} {H : Hp} {E : XK} {k : Nat} {nLPlain : Nat} (T : Bl K w mg C aW aP) {jLRules : Nat} (cLRules : Cl P w K mg base jLRules "_law_rules" (PLRules K C)) (hjLRules : jLRules ≤ k)
    {jLPlain : Nat} (cLPlain : Cl P w K mg base jLPlain "_law_plain" (PLPlain K C nLPlain)) (hjLPlain : jLPlain ≤ k) (hr : Room k (A.deeper (envOfC "_law_plain" (defScope sLPlain) s.heap.objs.size f cdv))) :
    PSs (cxOf L2.CX0 P w K mg base NLPlain "_law_plain" (defScope sLPlain) f cdv A outer s H E).nox (defBody sLPlain) (tLPlain K C nLPlain) :=
  (pss_cons (ps_if (pt_val (pe_callB call_isi (by rfl) T.isinstance_ (by decide +kernel) (pa_cons (pv 2) (pa_cons (pe_bltn (v := .ty "int") (by rfl) T.int_ boot_int rfl) pa_nil)))) (pss_one (ps_ret (pe_ix ix_seq (pv 0) (pv 2) (fun _ _ => rfl)))) pss_nil)
    (pss_cons (ps_par3 (i := 3) (j := 4) (l := 5) rfl scLPlain.nd rfl rfl rfl (by decide) (by decide) (by decide) rfl rfl rfl (pa_cons (pe_ix ix_seq (pv 2) pe_int (fun _ _ => rfl)) (pa_cons (pe_d cLPlain hr (by omega) (by rfl) (pa_cons (pv 0) (pa_cons (pv 1) (pa_cons (pe_ix ix_seq (pv 2) pe_int (fun _ _ => rfl)) pa_nil)))) (pa_cons (pe_d cLPlain hr (by omega) (by rfl) (pa_cons (pv 0) (pa_cons (pv 1) (pa_cons (pe_ix ix_seq (pv 2) pe_int (fun _ _ => rfl)) pa_nil)))) pa_nil))) (by rfl))
    (pss_cons (ps_asg (pe_dget (hu_of hr) (pe_disp (pps_cons pe_str (pe_tup (pa_cons pe_int (pa_cons pe_int (pa_cons pe_int pa_nil)))) (pps_cons pe_str (pe_tup (pa_cons pe_int (pa_cons pe_int (pa_cons pe_int pa_nil)))) (pps_cons pe_str (pe_tup (pa_cons pe_int (pa_cons pe_int (pa_cons pe_int pa_nil)))) pps_nil))) (by rfl) (by rfl) (fun z => by cases z) (by decide)) (pv 3) (fun _ _ => rfl)) (pg_tup rfl (pgs_cons (pg_name (i := 6) scLPlain.nd rfl (Or.inl rfl)) (pgs_cons (pg_name (i := 7) scLPlain.nd rfl (Or.inl rfl)) (pgs_cons (pg_name (i := 8) scLPlain.nd rfl (Or.inl rfl)) pgs_nil)))))
    (pss_cons (ps_for PassesOwn.never rfl (pi_list (pv 1)) (pg_name (i := 9) scLPlain.nd rfl (Or.inl rfl)) (pss_one (ps_if (PW.pt (pw_and (pt_cmpR (op_eqD hr.units) (pe_ix ix_seq (pv 9) (pv 6) (fun _ _ => rfl)) (pv 4) (nomark _)) (pw_and1 (pt_cmpR (op_eqD hr.units) (pe_ix ix_seq (pv 9) (pv 7) (fun _ _ => rfl)) (pv 5) (nomark _))))) (pss_one (ps_ret (pe_ix ix_seq (pv 9) (pv 8) (fun _ _ => rfl)))) pss_nil)))
    (pss_cons (ps_for PassesOwn.never rfl (pi_list (pe_d cLRules hr (by omega) (by rfl) (pa_cons (pv 3) (pa_cons (pv 4) (pa_cons (pv 5) pa_nil))))) (pg_tup rfl (pgs_cons (pg_name (i := 10) scLPlain.nd rfl (Or.inl rfl)) (pgs_cons (pg_name (i := 11) scLPlain.nd rfl (Or.inl rfl)) pgs_nil))) (pss_one (ps_if (pt_cmpR (op_eqD hr.units) (pv 10) (pe_tup (pa_cons (pv 3) (pa_cons (pv 4) (pa_cons (pv 5) pa_nil)))) (nomark _)) (pss_one (ps_ret (pv 11))) pss_nil)))
    (pss_one (ps_ret (pe_tup (pa_cons (pv 3) (pa_cons (pv 4) (pa_cons (pv 5) pa_nil)))))))))))
end RD

end
section
set_option linter.all false
set_option maxRecDepth 100000
set_option maxHeartbeats 4000000
/-! L1: the law's look at formulas: count, words, rules, plain. -/
namespace RD
open PySem PySem.Spec PyProof.Rows L2
section
variable {P : Program} {w : World} {K : PySem.W.Frag} {mg : Str → Option Value} {base : Heap} {C aW aP : Addr} {m : Option Addr} {r : Rho} {ta tb te : TE} {t : TT} {g : TG} {tz : TS} {O : Out}
theorem isTup_kit (f : F) : kitB (tyD f.d) "tuple" = some (!f.isNm) := by
  cases f
  · show kitB "int" "tuple" = some false
    decide +kernel
  · show kitB "tuple" "tuple" = some true
    decide +kernel
theorem isBool_kit (f : F) : kitB (tyD f.d) "bool" = some false := by
  cases f
  · show kitB "int" "bool" = some false
    decide +kernel
  · show kitB "tuple" "bool" = some false
    decide +kernel
theorem et_isInt {f : F} (h : EvX K C m te r (fun z => z = .d f.d)) : EvT K C m (tB (tCB (rIsi K) (tCons te (tCons (tC (.ty "int")) tNil)))) r (fun z => z = f.isNm) := et_B (er_isi h (isNm_kit f))
theorem ds_par3 {i j l : Nat} {tA : TA} {s1 s2 s3 : PyData} (h : EvA K C m tA r (fun z => z = [.d s1, .d s2, .d s3])) (k : DS K C m tz (((r.set i (some (.d s1))).set j (some (.d s2))).set l (some (.d s3))) O) : DS K C m (tSeq (tPar3 i j l tA) tz) r O := fun S0 H0 σ S H D st k1 k2 k3 k4 =>
  h S0 H0 σ S H st _ fun vs ss S1 H1 e st1 hv => by
    subst e
    cases hv with
    | cons h1 ht =>
      cases ht with
      | cons h2 hu =>
        cases hu with
        | cons h3 hw =>
          cases hw
          exact ⟨_, _, _, rfl, k S0 H0 _ S1 H1 D ((((st.step st1).put (s := .d s1) rfl (fun _ z => nomatch z) h1).put (s := .d s2) rfl (fun _ z => nomatch z) h2).put (s := .d s3) rfl (fun _ z => nomatch z) h3) k1 k2 k3 k4⟩
theorem cl_LCount (T : Bl K w mg C aW aP) (d : Df K mg "_law_count" sLCount ["_law_value"]) : ∀ n, Cl P w K mg base (1 + n) "_law_count" (PLCount K C n)
  | 0 => pd_cl (k := 0) d scLCount (fun _ => rfl) (fun _ => rfl) fun f cdv A outer s H E a hr hp => absurd hp (Nat.not_lt_zero _)
  | n + 1 => pd_cl (k := 1 + n) d scLCount (fun _ => rfl) (fun _ => rfl) fun f cdv A outer s H E a hr hp => ⟨_, dvLCount T (cl_LCount T d n) (by omega) hr, by
    refine ds_ret (P := fun z => z = .d (natD a.sz)) (er_if (et_B (er_isi (x := a.d) (er_var rfl rfl) (isTup_kit a))) (fun e => ?_) fun e => ?_) fun s e => e
    · cases a with
      | nm k => cases e
      | op u x y =>
        obtain ⟨h1, h2⟩ := fdep hp
        refine (er_op (er_op (er_int 1) (er_call1 (P := fun s => s = .d (natD x.sz)) x (ea_cons (er_i1 (wd := u) (a := x) (b := y) (er_var rfl rfl)) ea_nil) h1 fun s e => e) rx_add) (er_call1 (P := fun s => s = .d (natD y.sz)) y (ea_cons (er_i2 (wd := u) (a := x) (b := y) (er_var rfl rfl)) ea_nil) h2 fun s e => e) rx_add).is ?_
        show Sh.d (.int (1 + (x.sz : Int) + (y.sz : Int))) = Sh.d (.int ((1 + x.sz + y.sz : Nat) : Int))
        rw [Int.natCast_add, Int.natCast_add] <;> rfl
    · cases a with
      | nm k => exact er_int 1
      | op u x y => cases e⟩
theorem shaped_words : SeqAt.shaped (.list [.str "with", .str "behind", .str "ahead"]) = true := by decide +kernel
theorem words_any (v : Wd) : ([PyData.str "with", .str "behind", .str "ahead"].any fun y => PyData.eqv y (.str v.s)) = true := by
  cases v <;> decide +kernel
theorem cl_LPartWord (T : Bl K w mg C aW aP) (d : Df K mg "_law_part_word" sLPartWord ["_law_names", "_law_value"]) : ∀ n, Cl P w K mg base (1 + n) "_law_part_word" (PLPartWord K C n)
  | 0 => pd_cl (k := 0) d scLPartWord (fun _ => rfl) (fun _ => rfl) fun f cdv A outer s H E a hr hp => absurd hp.2 (Nat.not_lt_zero _)
  | n + 1 => pd_cl (k := 1 + n) d scLPartWord (fun _ => rfl) (fun _ => rfl) fun f cdv A outer s H E a hr hp => ⟨_, dvLPartWord T (cl_LPartWord T d n) (by omega) hr, by
    obtain ⟨k, g⟩ := a
    cases g with
    | nm i =>
      have hi : i < k := of_decide_eq_true hp.1
      refine ds_ifr (b := true && !false) (et_and (et_isInt (f := .nm i) (er_var rfl rfl)) fun _ => et_not (et_B (er_isi (x := natD i) (er_var rfl rfl) (isBool_kit (.nm i))))) (fun _ => ?_) fun e => nomatch e
      refine ds_ret (P := fun z => z = .d .none) (er_if (b := true) (et_is (et_chain (er_int 0) (er_var (s := .d (natD i)) rfl rfl) (er_var (s := .d (natD k)) rfl rfl) rx_le rx_lt) ?_) (fun _ => er_non) fun e => nomatch e) fun s e => e
      rw [decide_eq_true (show (0 : Int) ≤ (i : Int) by omega), decide_eq_true (show (i : Int) < (k : Int) by omega)] <;> rfl
    | op u x y =>
      obtain ⟨h1, h2⟩ := fdep hp.2
      obtain ⟨l1, l2⟩ := flt hp.1
      refine ds_ifr (b := false && true) (et_and (et_isInt (f := .op u x y) (er_var rfl rfl)) fun e => nomatch e) (fun e => nomatch e) fun _ => ?_
      refine ds_ifr (b := false) (et_is (et_or (a := !true) (b := false) (et_not (et_B (er_isi (x := (F.op u x y).d) (er_var rfl rfl) (isTup_kit (.op u x y))))) fun _ => et_is (et_val (er_op (er_cb (ea_cons (er_var rfl rfl) ea_nil) (rxa_lenT (ds := [.str u.s, x.d, y.d]))) (er_int 3) (rx_neD (shaped_int _) (shaped_int _)))) (by rw [eqv_int] <;> rfl)) rfl) (fun e => nomatch e) fun _ => ?_
      refine ds_ifr (b := false) (et_is (et_or (a := !true) (b := false) (et_not (et_B (er_isi (x := .str u.s) (er_i0 (wd := u) (a := x) (b := y) (er_var rfl rfl)) (show kitB "str" "str" = some true by decide +kernel)))) fun _ => et_is (et_val (er_op (er_i0 (wd := u) (a := x) (b := y) (er_var rfl rfl)) (er_lst (xs := [.str "with", .str "behind", .str "ahead"]) (ea_cons (er_str _) (ea_cons (er_str _) (ea_cons (er_str _) ea_nil))) (show 3 ≤ 100000 by decide)) (rx_niD (shaped_wd u) shaped_words))) (by rw [words_any] <;> rfl)) rfl) (fun e => nomatch e) fun _ => ?_
      refine ds_set (er_call1 (P := fun s => s = .d .none) (k, x) (ea_cons (er_var rfl rfl) (ea_cons (er_i1 (wd := u) (a := x) (b := y) (er_var rfl rfl)) ea_nil)) ⟨l1, h1⟩ fun s e => e) ?_
      exact ds_ret (P := fun z => z = .d .none) (er_if (b := true) (et_val (er_op (er_var rfl rfl) er_non rx_isN)) (fun _ => er_call1 (k, y) (ea_cons (er_var rfl rfl) (ea_cons (er_i2 (wd := u) (a := x) (b := y) (er_var rfl rfl)) ea_nil)) ⟨l2, h2⟩ fun s e => e) fun e => nomatch e) fun s e => e⟩
theorem cl_LFormulaWord (T : Bl K w mg C aW aP) (cC : Cl P w K mg base 9 "_law_count" (PLCount K C 8)) (cP : Cl P w K mg base 9 "_law_part_word" (PLPartWord K C 8)) (d : Df K mg "_law_formula_word" sLFormulaWord ["_law_names", "_law_value"]) : Cl P w K mg base 10 "_law_formula_word" (PLFormulaWord K C) :=
  pd_cl d scLFormulaWord (fun _ => rfl) (fun _ => rfl) fun f cdv A outer s H E a hr hp => ⟨_, dvLFormulaWord T cC (by omega) cP (by omega) hr, by
    have h15 := hp.2
    have h8 := sz_dep hp.2
    refine ds_set (er_call1 (P := fun s => s = .d .none) a (ea_cons (er_var rfl rfl) (ea_cons (er_var rfl rfl) ea_nil)) ⟨hp.1, h8⟩ fun s e => e) ?_
    refine ds_ret (P := fun z => z = .d .none) (er_if (b := true && false) (et_and (et_val (er_op (er_var rfl rfl) er_non rx_isN)) fun _ => et_is (et_val (er_op (er_call1 (P := fun s => s = .d (natD a.2.sz)) a.2 (ea_cons (er_var rfl rfl) ea_nil) h8 fun s e => e) (er_int 15) rx_gt)) (decide_eq_false (by omega))) (fun e => nomatch e) fun _ => er_var rfl rfl) fun s e => e⟩
theorem er_pairF {p q : F} {t1 t2 : TE} (h1 : EvX K C m t1 r (fun z => z = .d p.d)) (h2 : EvX K C m t2 r (fun z => z = .d q.d)) : EvX K C m (tTup (tCons t1 (tCons t2 tNil))) r (fun z => z = .d (pairFD (p, q))) :=
  er_tup (xs := [p.d, q.d]) (ea_cons h1 (ea_cons h2 ea_nil)) (show 2 ≤ 100000 by decide)
theorem cl_LRules (T : Bl K w mg C aW aP) (d : Df K mg "_law_rules" sLRules ["_law_word", "_law_one", "_law_other"]) : Cl P w K mg base 1 "_law_rules" (PLRules K C) :=
  pd_cl d scLRules (fun _ => rfl) (fun _ => rfl) fun f cdv A outer s H E a hr hp => ⟨_, dvLRules T hr, by
    obtain ⟨v, a, b⟩ := a
    refine ds_setOwn (eo_lst1 (xs := []) ea_nil (by decide)) fun l xs e => ?_
    subst e
    refine ds_seq (fun r => r = [some (.d (.str v.s)), some (.d a.d), some (.d b.d), some (.own l ((lrulesB b).map pairFD))]) (ds_if1 (et_not (et_isInt (f := b) (er_var rfl rfl))) (fun e => ?_) fun e => ?_) fun r' er => ?_
    · cases b with
      | nm n => cases e
      | op u x y =>
        refine ds_seq (fun r => r = [some (.d (.str v.s)), some (.d a.d), some (.d (F.op u x y).d), some (.own l [pairFD (.op .wi x (.op .be x y), y)])]) (ds_app (xs := []) rfl (er_pairF (er_opF (er_wd .wi rfl) (er_i1 (wd := u) (a := x) (b := y) (er_var rfl rfl)) (er_opF (er_wd .be rfl) (er_i1 (wd := u) (a := x) (b := y) (er_var rfl rfl)) (er_i2 (wd := u) (a := x) (b := y) (er_var rfl rfl)))) (er_i2 (wd := u) (a := x) (b := y) (er_var rfl rfl))) (by decide) rfl) fun r1 e1 => ?_
        subst e1
        refine ds_seq (fun r => r = [some (.d (.str v.s)), some (.d a.d), some (.d (F.op u x y).d), some (.own l [pairFD (.op .wi x (.op .be x y), y), pairFD (.op .be x (.op .wi x y), y)])]) (ds_app rfl (er_pairF (er_opF (er_wd .be rfl) (er_i1 (wd := u) (a := x) (b := y) (er_var rfl rfl)) (er_opF (er_wd .wi rfl) (er_i1 (wd := u) (a := x) (b := y) (er_var rfl rfl)) (er_i2 (wd := u) (a := x) (b := y) (er_var rfl rfl)))) (er_i2 (wd := u) (a := x) (b := y) (er_var rfl rfl))) (show 1 < 100000 by decide) rfl) fun r2 e2 => ?_
        subst e2
        exact ds_app rfl (er_pairF (er_opF (er_wd .ah rfl) (er_i2 (wd := u) (a := x) (b := y) (er_var rfl rfl)) (er_opF (er_wd .wi rfl) (er_i1 (wd := u) (a := x) (b := y) (er_var rfl rfl)) (er_i2 (wd := u) (a := x) (b := y) (er_var rfl rfl)))) (er_i1 (wd := u) (a := x) (b := y) (er_var rfl rfl))) (show 2 < 100000 by decide) rfl
    · cases b with
      | nm n => exact ds_next rfl
      | op u x y => cases e
    · subst er
      have l3 : ((lrulesB b).map pairFD).length ≤ 3 := by
        rw [List.length_map]
        cases b <;> simp [lrulesB]
      refine ds_seq (fun r => r = [some (.d (.str v.s)), some (.d a.d), some (.d b.d), some (.own l ((lrules a b).map pairFD))]) (ds_if1 (et_not (et_isInt (f := a) (er_var rfl rfl))) (fun e => ?_) fun e => ?_) fun r' er => ?_
      · cases a with
        | nm n => cases e
        | op u x y =>
          refine ds_seq (fun r => r = [some (.d (.str v.s)), some (.d (F.op u x y).d), some (.d b.d), some (.own l ((lrulesB b).map pairFD ++ [pairFD (.op .wi (.op .ah x y) x, y)]))]) (ds_app rfl (er_pairF (er_opF (er_wd .wi rfl) (er_opF (er_wd .ah rfl) (er_i1 (wd := u) (a := x) (b := y) (er_var rfl rfl)) (er_i2 (wd := u) (a := x) (b := y) (er_var rfl rfl))) (er_i1 (wd := u) (a := x) (b := y) (er_var rfl rfl))) (er_i2 (wd := u) (a := x) (b := y) (er_var rfl rfl))) (by omega) rfl) fun r1 e1 => ?_
          subst e1
          refine ds_seq (fun r => r = [some (.d (.str v.s)), some (.d (F.op u x y).d), some (.d b.d), some (.own l ((lrulesB b).map pairFD ++ [pairFD (.op .wi (.op .ah x y) x, y)] ++ [pairFD (.op .be (.op .ah x y) y, x)]))]) (ds_app rfl (er_pairF (er_opF (er_wd .be rfl) (er_opF (er_wd .ah rfl) (er_i1 (wd := u) (a := x) (b := y) (er_var rfl rfl)) (er_i2 (wd := u) (a := x) (b := y) (er_var rfl rfl))) (er_i2 (wd := u) (a := x) (b := y) (er_var rfl rfl))) (er_i1 (wd := u) (a := x) (b := y) (er_var rfl rfl))) (by rw [List.length_append]; show _ + 1 < _; omega) rfl) fun r2 e2 => ?_
          subst e2
          refine ds_app rfl (er_pairF (er_opF (er_wd .ah rfl) (er_opF (er_wd .be rfl) (er_i1 (wd := u) (a := x) (b := y) (er_var rfl rfl)) (er_i2 (wd := u) (a := x) (b := y) (er_var rfl rfl))) (er_i2 (wd := u) (a := x) (b := y) (er_var rfl rfl))) (er_i1 (wd := u) (a := x) (b := y) (er_var rfl rfl))) (by rw [List.length_append, List.length_append]; show _ + 1 + 1 < _; omega) ?_
          show _ = _
          unfold lrules
          rw [List.map_append, List.append_assoc, List.append_assoc] <;> rfl
      · cases a with
        | nm n =>
          refine ds_next ?_
          show _ = _
          unfold lrules
          rw [show lrulesA (.nm n) = [] from rfl, List.append_nil]
        | op u x y => cases e
      · subst er
        exact ds_retOwn rfl rfl⟩
end
end RD

end
section
set_option linter.all false
set_option maxRecDepth 100000
set_option maxHeartbeats 4000000
/-! N1: the law's moves, steps, roads, plain forms. -/
namespace RD
open PySem PySem.Spec PyProof.Rows L2
def pp : Wd → Ent
  | .wi => (0, 1, 2)
  | .be => (0, 2, 1)
  | .ah => (1, 2, 0)
theorem places_pp (v : Wd) : placesD v = .tuple [natD (pp v).1, natD (pp v).2.1, natD (pp v).2.2] := by cases v <;> rfl
theorem pp_at (v : Wd) (e : Ent) : atI ([natD e.1, natD e.2.1, natD e.2.2] : List PyData) ((pp v).1 : Int) = some (natD (pl v e).1) ∧ atI ([natD e.1, natD e.2.1, natD e.2.2] : List PyData) ((pp v).2.1 : Int) = some (natD (pl v e).2.1) ∧ atI ([natD e.1, natD e.2.1, natD e.2.2] : List PyData) ((pp v).2.2 : Int) = some (natD (pl v e).2.2) := by
  cases v <;> exact ⟨rfl, rfl, rfl⟩
mutual
theorem lay_lst : ∀ {ds : List PyData}, (∀ d ∈ ds, d.canLay0 = true) → (PyData.list ds).canLay0 = true
  | ds, h => by
    simp only [PyData.canLay0]
    exact lay_all h
theorem lay_all : ∀ {ds : List PyData}, (∀ d ∈ ds, d.canLay0 = true) → PyData.canLayAll0 ds = true
  | [], _ => rfl
  | d :: ds, h => by
    simp only [PyData.canLayAll0]
    rw [h d List.mem_cons_self, lay_all fun x hx => h x (List.mem_cons_of_mem _ hx)] <;> rfl
end
theorem dep_all {k : Nat} : ∀ {ds : List PyData}, (∀ d ∈ ds, d.depth ≤ k) → PyData.depthAll ds ≤ k
  | [], _ => by simp only [PyData.depthAll]; omega
  | d :: ds, h => by
    have h1 := h d List.mem_cons_self
    have h2 := dep_all fun x hx => h x (List.mem_cons_of_mem _ hx)
    simp only [PyData.depthAll]
    omega
theorem shaped_lst {ds : List PyData} (h1 : ∀ d ∈ ds, d.canLay0 = true) (h2 : ∀ d ∈ ds, d.depth ≤ 60) : SeqAt.shaped (.list ds) = true := by
  refine shaped_of (lay_lst h1) ?_
  have := dep_all h2
  simp only [PyData.depth]
  omega
theorem lay_pair (p : F × F) : (pairFD p).canLay0 = true := by
  simp only [pairFD, PyData.canLay0, PyData.canLayAll0, lay_F] <;> rfl
theorem dep_pair (p : F × F) : (pairFD p).depth = 1 + max p.1.dep p.2.dep := by
  simp only [pairFD, PyData.depth, PyData.depthAll, depth_F]
  omega
theorem eqv_pair (p q : F × F) : PyData.eqv (pairFD p) (pairFD q) = decide (p = q) := by
  obtain ⟨a, b⟩ := p
  obtain ⟨c, d⟩ := q
  simp only [pairFD, PyData.eqv, PyData.eqvAll]
  rw [eqv_F, eqv_F, Bool.and_true]
  by_cases h1 : a = c
  · by_cases h2 : b = d
    · subst h1 h2
      simp
    · simp [h2]
  · simp [h1]
theorem rules_dep {a b : F} {p : F × F} (h : p ∈ lrules a b) : p.1.dep ≤ 1 + max a.dep b.dep ∧ p.2.dep ≤ max a.dep b.dep := by
  rcases List.mem_append.mp h with h | h
  · cases b with
    | nm _ => cases h
    | op u x y =>
      simp only [lrulesB, List.mem_cons, List.not_mem_nil, or_false] at h
      rcases h with rfl | rfl | rfl <;> simp only [F.dep] <;> omega
  · cases a with
    | nm _ => cases h
    | op u x y =>
      simp only [lrulesA, List.mem_cons, List.not_mem_nil, or_false] at h
      rcases h with rfl | rfl | rfl <;> simp only [F.dep] <;> omega
def anyF (n : Nat) (f : Nat → Bool) : Bool := (List.range n).any f
theorem given_nil {ds : List PyData} {n : Nat} {f : Nat → Bool} : (givenD ds f (fun _ => .int 1) n = []) ↔ anyF n f = false := by
  unfold givenD anyF
  rw [List.map_eq_nil_iff, List.filter_eq_nil_iff, List.any_eq_false]
theorem eqv_nil (xs : List PyData) : PyData.eqv (.list xs) (.list []) = decide (xs = []) := by
  cases xs with
  | nil => simp [PyData.eqv, PyData.eqvAll]
  | cons x xs => simp [PyData.eqv, PyData.eqvAll]
theorem shaped_ones {ds : List PyData} {n : Nat} {f : Nat → Bool} : SeqAt.shaped (.list (givenD ds f (fun _ => .int 1) n)) = true := by
  refine shaped_lst (fun d hd => ?_) (fun d hd => ?_)
  · obtain ⟨i, _, rfl⟩ := List.mem_map.mp hd
    rfl
  · obtain ⟨i, _, rfl⟩ := List.mem_map.mp hd
    simp only [PyData.depth]
    omega
theorem shaped_nil : SeqAt.shaped (.list []) = true := by decide +kernel
section
variable {P : Program} {w : World} {K : PySem.W.Frag} {mg : Str → Option Value} {base : Heap} {C aW aP : Addr} {m : Option Addr} {r : Rho} {ta tb te : TE} {t : TT} {g : TG} {tz : TS} {O : Out} {wi : TI}
/-- [1 for .. if ..] == [], != [] -/
theorem er_ones {ds : List PyData} {vs : List Nat} (f : Nat → Bool) (h : ItX K C m wi r ds) (hz : ds.length < 100000)
    (hs : ∀ (i : Nat) d, ds[i]? = some d → ∃ r2 js, GT K C m g (.d d) (wipeR r vs) r2 js ∧ (∀ j ∈ js, j ∈ vs) ∧ EvT K C m t r2 (fun b => b = f i)) : EvX K C m (tLc wi g t (tC (.int 1)) vs) r (fun z => z = .d (.list (givenD ds f (fun _ => .int 1) ds.length))) :=
  er_ownD (eo_lcF f (fun _ => .int 1) h hz fun i d hd => by
    obtain ⟨r2, js, h1, h2, h3⟩ := hs i d hd
    exact ⟨r2, js, h1, h2, h3, fun _ => er_int 1⟩)
theorem er_lst0 : EvX K C m (tLst tNil) r (fun z => z = .d (.list [])) := er_lst ea_nil (show 0 ≤ 100000 by decide)
theorem er_onesEq {ds : List PyData} {vs : List Nat} (f : Nat → Bool) (h : ItX K C m wi r ds) (hz : ds.length < 100000)
    (hs : ∀ (i : Nat) d, ds[i]? = some d → ∃ r2 js, GT K C m g (.d d) (wipeR r vs) r2 js ∧ (∀ j ∈ js, j ∈ vs) ∧ EvT K C m t r2 (fun b => b = f i)) : EvX K C m (tOp (rEqD K) (tLc wi g t (tC (.int 1)) vs) (tLst tNil)) r (fun z => z = .d (.bool (!anyF ds.length f))) :=
  (er_op (er_ones f h hz hs) er_lst0 (rx_eqD shaped_ones shaped_nil)).is (by
    rw [eqv_nil]
    cases e : anyF ds.length f with
    | false => rw [decide_eq_true (given_nil.mpr e)] <;> rfl
    | true => rw [decide_eq_false fun z => by rw [given_nil.mp z] at e; cases e] <;> rfl)
theorem er_onesNe {ds : List PyData} {vs : List Nat} (f : Nat → Bool) (h : ItX K C m wi r ds) (hz : ds.length < 100000)
    (hs : ∀ (i : Nat) d, ds[i]? = some d → ∃ r2 js, GT K C m g (.d d) (wipeR r vs) r2 js ∧ (∀ j ∈ js, j ∈ vs) ∧ EvT K C m t r2 (fun b => b = f i)) : EvX K C m (tOp (rNeD K) (tLc wi g t (tC (.int 1)) vs) (tLst tNil)) r (fun z => z = .d (.bool (anyF ds.length f))) :=
  (er_op (er_ones f h hz hs) er_lst0 (rx_neD shaped_ones shaped_nil)).is (by
    rw [eqv_nil]
    cases e : anyF ds.length f with
    | false => rw [decide_eq_true (given_nil.mpr e)] <;> rfl
    | true => rw [decide_eq_false fun z => by rw [given_nil.mp z] at e; cases e] <;> rfl)
theorem er_mark {M : List Nat} {x : Nat} (hx : x < M.length) (h1 : EvX K C m ta r (fun z => z = .d (listN M))) (h2 : EvX K C m tb r (fun z => z = .d (natD x))) : EvX K C m (tOp (rIx K) ta tb) r (fun z => z = .d (natD (mk M x))) :=
  er_op h1 h2 (rx_ixL (atI_natD hx))
theorem er_row0 {v : Wd} {e : Ent} (h1 : EvX K C m ta r (fun z => z = .d (rowD e))) (h2 : EvX K C m tb r (fun z => z = .d (natD (pp v).1))) : EvX K C m (tOp (rIx K) ta tb) r (fun z => z = .d (natD (pl v e).1)) := er_op h1 h2 (rx_ixT (pp_at v e).1)
theorem er_row1 {v : Wd} {e : Ent} (h1 : EvX K C m ta r (fun z => z = .d (rowD e))) (h2 : EvX K C m tb r (fun z => z = .d (natD (pp v).2.1))) : EvX K C m (tOp (rIx K) ta tb) r (fun z => z = .d (natD (pl v e).2.1)) := er_op h1 h2 (rx_ixT (pp_at v e).2.1)
theorem er_row2 {v : Wd} {e : Ent} (h1 : EvX K C m ta r (fun z => z = .d (rowD e))) (h2 : EvX K C m tb r (fun z => z = .d (natD (pp v).2.2))) : EvX K C m (tOp (rIx K) ta tb) r (fun z => z = .d (natD (pl v e).2.2)) := er_op h1 h2 (rx_ixT (pp_at v e).2.2)
theorem eqv_row (a b : Ent) : PyData.eqv (rowD a) (rowD b) = decide (a = b) := by
  obtain ⟨x, y, z⟩ := a
  obtain ⟨x', y', z'⟩ := b
  have h1 := eqv_nat x x'
  have h2 := eqv_nat y y'
  have h3 := eqv_nat z z'
  simp only [rowD, PyData.eqv, PyData.eqvAll] at h1 h2 h3 ⊢
  rw [h1, h2, h3]
  by_cases e1 : x = x' <;> by_cases e2 : y = y' <;> by_cases e3 : z = z' <;> simp [e1, e2, e3]
theorem shaped_row (a : Ent) : SeqAt.shaped (rowD a) = true := by
  refine shaped_of ?_ ?_
  · simp only [rowD, PyData.canLay0, PyData.canLayAll0, natD] <;> rfl
  · simp only [rowD, PyData.depth, PyData.depthAll, natD]
    omega
theorem er_rowT {a b c : Nat} {t1 t2 t3 : TE} (h1 : EvX K C m t1 r (fun z => z = .d (natD a))) (h2 : EvX K C m t2 r (fun z => z = .d (natD b))) (h3 : EvX K C m t3 r (fun z => z = .d (natD c))) : EvX K C m (tTup (tCons t1 (tCons t2 (tCons t3 tNil)))) r (fun z => z = .d (rowD (a, b, c))) :=
  er_tup (xs := [natD a, natD b, natD c]) (ea_cons h1 (ea_cons h2 (ea_cons h3 ea_nil))) (show 3 ≤ 100000 by decide)
theorem gt_places {v : Wd} {i j k : Nat} : GT K C m (gTup K 3 (gCons (gName i) (gCons (gName j) (gCons (gName k) gNil)))) (.d (placesD v)) r (((r.set i (some (.d (natD (pp v).1)))).set j (some (.d (natD (pp v).2.1)))).set k (some (.d (natD (pp v).2.2)))) [i, j, k] := by
  rw [places_pp]
  exact gt_tup (xs := [natD (pp v).1, natD (pp v).2.1, natD (pp v).2.2]) (gts_cons (x := .d (natD (pp v).1)) (xs := [.d (natD (pp v).2.1), .d (natD (pp v).2.2)]) gt_nameD (gts_cons (x := .d (natD (pp v).2.1)) (xs := [.d (natD (pp v).2.2)]) gt_nameD (gts_cons (x := .d (natD (pp v).2.2)) (xs := []) gt_nameD gts_nil)))
theorem er_rules {v : Wd} {a b : F} {t1 t2 t3 : TE} (h1 : EvX K C m t1 r (fun z => z = .d (.str v.s))) (h2 : EvX K C m t2 r (fun z => z = .d a.d)) (h3 : EvX K C m t3 r (fun z => z = .d b.d)) : EvX K C m (tCall (PLRules K C) [] L2.E0 (tCons t1 (tCons t2 (tCons t3 tNil)))) r (fun z => z = .tl ((lrules a b).map pairFD)) :=
  er_call1 (v, a, b) (ea_cons h1 (ea_cons h2 (ea_cons h3 ea_nil))) trivial fun s e => e
theorem rows_at {R : List Ent} {i : Nat} {d : PyData} (h : (R.map rowD)[i]? = some d) : ∃ hi : i < R.length, d = rowD R[i] := by
  rw [List.getElem?_map] at h
  cases hg : R[i]? with
  | none =>
    rw [hg] at h
    cases h
  | some e =>
    rw [hg] at h
    cases h
    obtain ⟨h1, h2⟩ := List.getElem?_eq_some_iff.mp hg
    exact ⟨h1, by rw [h2]⟩
theorem anyF_list {α : Type} (l : List α) (q : α → Bool) (f : Nat → Bool) (h : ∀ (i : Nat) (hi : i < l.length), f i = q l[i]) : anyF l.length f = l.any q := by
  unfold anyF
  rw [Bool.eq_iff_iff, List.any_eq_true, List.any_eq_true]
  constructor
  · rintro ⟨i, hi, e⟩
    have hi := List.mem_range.mp hi
    exact ⟨l[i], List.getElem_mem hi, by rw [← h i hi]; exact e⟩
  · rintro ⟨x, hx, e⟩
    obtain ⟨i, hi, rfl⟩ := List.getElem_of_mem hx
    exact ⟨i, List.mem_range.mpr hi, by rw [h i hi]; exact e⟩
abbrev rowE (M : List Nat) (R : List Ent) (f g : F) (x4 x5 x6 x7 x8 x9 x10 x11 x12 : Option Sh) : Rho := [some (.d (listN M)), some (.d (listR R)), some (.d f.d), some (.d g.d), x4, x5, x6, x7, x8, x9, x10, x11, x12]
def lside1 (M : List Nat) (R : List Ent) (v : Wd) (a b s : F) : Bool := match a, b, s with
  | .nm x, .nm y, .nm z => R.any fun r => decide (pl v r = (M.getD x x, M.getD y y, M.getD z z))
  | _, _, _ => false
theorem lside_op (M : List Nat) (R : List Ent) (v : Wd) (a b s : F) : lside M R (.op v a b) s = (lside1 M R v a b s || (lrules a b).any fun p => decide (p = (.op v a b, s))) := rfl
/-- one side of the law's move -/
theorem ds_lside {M : List Nat} {R : List Ent} {f g p q : F} {x6 x7 x8 x9 x10 x11 x12 : Option Sh} {O : Out} (hp : MvOk M p) (hq : MvOk M q) (hR : R.length ≤ 100) (h1 : lside M R p q = true → O.rt (.d (.bool true))) (h2 : lside M R p q = false → ∀ x6 x7 x8 x9 x10 x11 x12, O.nx (rowE M R f g (some (.d p.d)) (some (.d q.d)) x6 x7 x8 x9 x10 x11 x12)) :
    DS K C m (tIfS (tNot (tB (tCB (rIsi K) (tCons (tVar 4) (tCons (tC (.ty "int")) tNil))))) (tSeq (tAsg (tVar 4) (gTup K 3 (gCons (gName 6) (gCons (gName 7) (gCons (gName 8) gNil)))))
    (tSeq (tAsg (tPlaces (tVar 6)) (gTup K 3 (gCons (gName 9) (gCons (gName 10) (gCons (gName 11) gNil)))))
    (tSeq (tIfS (tAnd (tB (tCB (rIsi K) (tCons (tVar 7) (tCons (tC (.ty "int")) tNil)))) (tAnd (tB (tCB (rIsi K) (tCons (tVar 8) (tCons (tC (.ty "int")) tNil)))) (tB (tCB (rIsi K) (tCons (tVar 5) (tCons (tC (.ty "int")) tNil)))))) (tIfS (tTest (tOp (rNeD K) (tLc (iList K (tVar 1)) (gName 12) (tTest (tOp (rEqD K) (tTup (tCons (tOp (rIx K) (tVar 12) (tVar 9)) (tCons (tOp (rIx K) (tVar 12) (tVar 10)) (tCons (tOp (rIx K) (tVar 12) (tVar 11)) tNil)))) (tTup (tCons (tOp (rIx K) (tVar 0) (tVar 7)) (tCons (tOp (rIx K) (tVar 0) (tVar 8)) (tCons (tOp (rIx K) (tVar 0) (tVar 5)) tNil)))))) (tC (.int 1)) [12]) (tLst tNil))) (tRet (tC (.bl true))) tNext) tNext)
    (tIfS (tTest (tOp (rInD K) (tTup (tCons (tVar 4) (tCons (tVar 5) tNil))) (tCall (PLRules K C) [] L2.E0 (tCons (tVar 6) (tCons (tVar 7) (tCons (tVar 8) tNil)))))) (tRet (tC (.bl true))) tNext)))) tNext) (rowE M R f g (some (.d p.d)) (some (.d q.d)) x6 x7 x8 x9 x10 x11 x12) O := by
  cases p with
  | nm n => exact ds_if1 (b := !true) (et_not (et_isInt (f := .nm n) (er_var rfl rfl))) (fun e => nomatch e) fun _ => ds_next (h2 rfl _ _ _ _ _ _ _)
  | op v a b =>
    obtain ⟨la, lb⟩ := flt hp.lt
    have hd' : 1 + max a.dep b.dep ≤ 40 := hp.dep
    have hdq := hq.dep
    refine ds_if1 (b := !false) (et_not (et_isInt (f := .op v a b) (er_var rfl rfl))) (fun _ => ?_) fun e => nomatch e
    refine ds_asg (er_var rfl rfl) (gt_op (wd := v) (a := a) (b := b)) (ds_asg (er_wplaces (v := v) (er_var rfl rfl)) gt_places ?_)
    refine ds_seq (fun r' => (∃ x, r' = rowE M R f g (some (.d (F.op v a b).d)) (some (.d q.d)) (some (.d (.str v.s))) (some (.d a.d)) (some (.d b.d)) (some (.d (natD (pp v).1))) (some (.d (natD (pp v).2.1))) (some (.d (natD (pp v).2.2))) x) ∧ lside1 M R v a b q = false) (ds_if1 (b := a.isNm && (b.isNm && q.isNm)) (et_and (et_isInt (er_var rfl rfl)) fun _ => et_and (et_isInt (er_var rfl rfl)) fun _ => et_isInt (er_var rfl rfl)) (fun e => ?_) fun e => ?_) fun r' ⟨⟨x, er⟩, hs⟩ => ?_
    · cases a with
      | op _ _ _ => cases e
      | nm x =>
        cases b with
        | op _ _ _ => cases e
        | nm y =>
          cases q with
          | op _ _ _ => cases e
          | nm z =>
            have hx : x < M.length := of_decide_eq_true la
            have hy : y < M.length := of_decide_eq_true lb
            have hz : z < M.length := of_decide_eq_true hq.lt
            have key := er_onesNe (K := K) (C := C) (m := m) (r := rowE M R f g (some (.d (F.op v (.nm x) (.nm y)).d)) (some (.d (F.nm z).d)) (some (.d (.str v.s))) (some (.d (F.nm x).d)) (some (.d (F.nm y).d)) (some (.d (natD (pp v).1))) (some (.d (natD (pp v).2.1))) (some (.d (natD (pp v).2.2))) x12) (wi := iList K (tVar 1)) (g := gName 12) (t := tTest (tOp (rEqD K) (tTup (tCons (tOp (rIx K) (tVar 12) (tVar 9)) (tCons (tOp (rIx K) (tVar 12) (tVar 10)) (tCons (tOp (rIx K) (tVar 12) (tVar 11)) tNil)))) (tTup (tCons (tOp (rIx K) (tVar 0) (tVar 7)) (tCons (tOp (rIx K) (tVar 0) (tVar 8)) (tCons (tOp (rIx K) (tVar 0) (tVar 5)) tNil)))))) (ds := R.map rowD) (vs := [12]) (fun i => decide (pl v (R.getD i (0, 0, 0)) = (mk M x, mk M y, mk M z))) (it_list (er_var rfl rfl)) (by rw [List.length_map]; omega) fun i d hd => by
                obtain ⟨hi, rfl⟩ := rows_at hd
                refine ⟨_, _, gt_nameD, fun _ h => h, ?_⟩
                have eg : R.getD i (0, 0, 0) = R[i] := by rw [List.getD_eq_getElem?_getD, List.getElem?_eq_getElem hi] <;> rfl
                rw [eg]
                exact et_is (et_val (er_op (er_rowT (er_row0 (v := v) (e := R[i]) (er_var rfl rfl) (er_var rfl rfl)) (er_row1 (v := v) (e := R[i]) (er_var rfl rfl) (er_var rfl rfl)) (er_row2 (v := v) (e := R[i]) (er_var rfl rfl) (er_var rfl rfl))) (er_rowT (er_mark hx (er_var rfl rfl) (er_var rfl rfl)) (er_mark hy (er_var rfl rfl) (er_var rfl rfl)) (er_mark hz (er_var rfl rfl) (er_var rfl rfl))) (rx_eqD (shaped_row _) (shaped_row _)))) (eqv_row _ _)
            have ea : anyF (R.map rowD).length (fun i => decide (pl v (R.getD i (0, 0, 0)) = (mk M x, mk M y, mk M z))) = lside1 M R v (.nm x) (.nm y) (.nm z) := by
              rw [List.length_map]
              exact anyF_list R _ _ fun i hi => by
                rw [List.getD_eq_getElem?_getD, List.getElem?_eq_getElem hi] <;> rfl
            rw [ea] at key
            refine ds_if1 (et_val key) (fun e2 => ?_) fun e2 => ds_next ⟨⟨_, rfl⟩, e2⟩
            refine ds_ret (er_bl true) fun s es => ?_
            rw [es]
            exact h1 (by rw [lside_op, e2] <;> rfl)
    · refine ds_next ⟨⟨_, rfl⟩, ?_⟩
      cases a with
      | op _ _ _ => rfl
      | nm x =>
        cases b with
        | op _ _ _ => rfl
        | nm y =>
          cases q with
          | op _ _ _ => rfl
          | nm z => cases e
    · subst er
      refine ds_if1 (et_is (et_val (er_op (er_pairF (p := .op v a b) (q := q) (er_var rfl rfl) (er_var rfl rfl)) (er_tl (er_rules (v := v) (a := a) (b := b) (er_var rfl rfl) (er_var rfl rfl) (er_var rfl rfl))) (rx_inD (shaped_of (lay_pair _) (by rw [dep_pair]; show 1 + max (1 + max a.dep b.dep) q.dep ≤ 64; omega)) (shaped_lst (fun d hd => ?_) fun d hd => ?_)))) (b := (lrules a b).any fun p => decide (p = (.op v a b, q))) ?_) (fun e => ?_) fun e => ?_
      · obtain ⟨y, _, rfl⟩ := List.mem_map.mp hd
        exact lay_pair y
      · obtain ⟨y, hy, rfl⟩ := List.mem_map.mp hd
        have := rules_dep hy
        rw [dep_pair]
        omega
      · rw [List.any_map]
        exact congrArg (fun q => List.any _ q) (funext fun y => eqv_pair _ _)
      · refine ds_ret (er_bl true) fun s es => ?_
        rw [es]
        exact h1 (by rw [lside_op, e, Bool.or_true])
      · exact ds_next (h2 (by rw [lside_op, hs, e] <;> rfl) _ _ _ _ _ _ _)
theorem lmove_sides {M : List Nat} {R : List Ent} {f g : F} (h : f.isNm = false ∨ g.isNm = false) : lmove M R f g = (lside M R f g || lside M R g f) := by
  cases f with
  | op _ _ _ => rfl
  | nm x =>
    cases g with
    | op _ _ _ => rfl
    | nm y => rcases h with h | h <;> cases h
theorem cl_LMove (T : Bl K w mg C aW aP) (cR : Cl P w K mg base 1 "_law_rules" (PLRules K C)) (d : Df K mg "_law_move" sLMove ["_law_marks_here", "_law_rows_here", "_law_one", "_law_other"]) : Cl P w K mg base 2 "_law_move" (PLMove K C) :=
  pd_cl d scLMove (fun _ => rfl) (fun _ => rfl) fun f cdv A outer s H E a hr hp => ⟨_, dvLMove T cR (by omega) hr, by
    obtain ⟨M, R, f, g⟩ := a
    obtain ⟨hf, hg, hR⟩ := hp
    have hf : MvOk M f := hf
    have hg : MvOk M g := hg
    have hR : R.length ≤ 100 := hR
    refine ds_ifr (et_and (et_isInt (f := f) (er_var rfl rfl)) fun _ => et_isInt (f := g) (er_var rfl rfl)) (fun e => ?_) fun e => ?_
    · cases f with
      | op _ _ _ => cases e
      | nm x =>
        cases g with
        | op _ _ _ => cases e
        | nm y =>
          have hx : x < M.length := of_decide_eq_true hf.lt
          have hy : y < M.length := of_decide_eq_true hg.lt
          refine ds_ret (er_andV (er_neN (a := x) (b := y) (er_var rfl rfl) (er_var rfl rfl)) fun _ => er_eqN (er_mark hx (er_var rfl rfl) (er_var rfl rfl)) (er_mark hy (er_var rfl rfl) (er_var rfl rfl))) fun s e => ?_
          rw [e]
          show _ = Sh.d (.bool (decide (x ≠ y) && decide (M.getD x x = M.getD y y)))
          rw [show decide (x ≠ y) = !decide (x = y) from by simp] <;> rfl
    · have hs : lmove M R f g = (lside M R f g || lside M R g f) := lmove_sides (by
        cases hfn : f.isNm with
        | false => exact .inl rfl
        | true =>
          rw [hfn] at e
          exact .inr e)
      refine ds_for (ds := [.tuple [f.d, g.d], .tuple [g.d, f.d]]) (it_list (er_lst (ea_cons (er_tup (xs := [f.d, g.d]) (ea_cons (er_var rfl rfl) (ea_cons (er_var rfl rfl) ea_nil)) (show 2 ≤ 100000 by decide)) (ea_cons (er_tup (xs := [g.d, f.d]) (ea_cons (er_var rfl rfl) (ea_cons (er_var rfl rfl) ea_nil)) (show 2 ≤ 100000 by decide)) ea_nil)) (show 2 ≤ 100000 by decide)))
        (fun i r => (∃ x4 x5 x6 x7 x8 x9 x10 x11 x12, r = rowE M R f g x4 x5 x6 x7 x8 x9 x10 x11 x12) ∧ (1 ≤ i → lside M R f g = false) ∧ (2 ≤ i → lside M R g f = false)) ⟨⟨none, none, none, none, none, none, none, none, none, rfl⟩, fun h => absurd h (by decide), fun h => absurd h (by decide)⟩ (fun i d r' hd ⟨⟨x4, x5, x6, x7, x8, x9, x10, x11, x12, hz⟩, i1, i2⟩ => ?_) fun r' ⟨_, i1, i2⟩ => ?_
      · subst hz
        match i, hd with
        | 0, hd =>
          cases hd
          refine ⟨_, _, gt_tup (xs := [f.d, g.d]) (gts_cons (x := .d f.d) (xs := [.d g.d]) gt_nameD (gts_cons (x := .d g.d) (xs := []) gt_nameD gts_nil)), ds_lside hf hg hR (fun q => ?_) fun q x6 x7 x8 x9 x10 x11 x12 => ⟨⟨_, _, _, _, _, _, _, _, _, rfl⟩, fun _ => q, fun h => absurd h (by decide)⟩⟩
          show Sh.d (.bool true) = Sh.d (.bool (lmove M R f g))
          rw [hs, q] <;> rfl
        | 1, hd =>
          cases hd
          refine ⟨_, _, gt_tup (xs := [g.d, f.d]) (gts_cons (x := .d g.d) (xs := [.d f.d]) gt_nameD (gts_cons (x := .d f.d) (xs := []) gt_nameD gts_nil)), ds_lside hg hf hR (fun q => ?_) fun q x6 x7 x8 x9 x10 x11 x12 => ⟨⟨_, _, _, _, _, _, _, _, _, rfl⟩, fun _ => i1 (by decide), fun _ => q⟩⟩
          show Sh.d (.bool true) = Sh.d (.bool (lmove M R f g))
          rw [hs, q, Bool.or_true]
        | i + 2, hd => exact absurd hd (by simp)
      · refine ds_ret (er_bl false) fun s e => ?_
        rw [e]
        show Sh.d (.bool false) = Sh.d (.bool (lmove M R f g))
        rw [hs, i1 (show 1 ≤ 2 by decide), i2 (show 2 ≤ 2 by decide)] <;> rfl⟩
end
end RD

end
section
set_option linter.all false
set_option maxRecDepth 100000
set_option maxHeartbeats 4000000
/-! N2: the law's steps, roads, plain forms. -/
namespace RD
open PySem PySem.Spec PyProof.Rows L2
section
variable {P : Program} {w : World} {K : PySem.W.Frag} {mg : Str → Option Value} {base : Heap} {C aW aP : Addr} {m : Option Addr} {r : Rho} {ta tb te : TE}
theorem lstep_nm {M : List Nat} {R : List Ent} {f g : F} (h : f.isNm = true ∨ g.isNm = true) : lstep M R f g = lmove M R f g := by
  cases f with
  | nm x => rfl
  | op _ _ _ =>
    cases g with
    | nm y => rfl
    | op _ _ _ => rcases h with h | h <;> cases h
theorem lstep_mv {M : List Nat} {R : List Ent} {f g : F} (h : lmove M R f g = true) : lstep M R f g = true := by
  cases f with
  | nm x => exact h
  | op _ _ _ =>
    cases g with
    | nm y => exact h
    | op _ _ _ =>
      simp only [lstep]
      rw [h] <;> rfl
theorem mv_op {M : List Nat} {v : Wd} {a b : F} (h : MvOk M (.op v a b)) : MvOk M a ∧ MvOk M b := by
  have hd : 1 + max a.dep b.dep ≤ 40 := h.dep
  exact ⟨⟨(flt h.lt).1, by omega⟩, ⟨(flt h.lt).2, by omega⟩⟩
theorem cl_LIsStep (T : Bl K w mg C aW aP) (cM : Cl P w K mg base 2 "_law_move" (PLMove K C)) (d : Df K mg "_law_is_step" sLIsStep ["_law_marks_here", "_law_rows_here", "_law_one", "_law_other"]) : ∀ n, Cl P w K mg base (3 + n) "_law_is_step" (PLIsStep K C n)
  | 0 => pd_cl (k := 2) d scLIsStep (fun _ => rfl) (fun _ => rfl) fun f cdv A outer s H E a hr hp => absurd hp.2.2.2 (Nat.not_lt_zero _)
  | n + 1 => pd_cl (k := 3 + n) d scLIsStep (fun _ => rfl) (fun _ => rfl) fun f cdv A outer s H E a hr hp => ⟨_, dvLIsStep T cM (by omega) (cl_LIsStep T cM d n) (by omega) hr, by
    obtain ⟨M, R, f, g⟩ := a
    obtain ⟨hf, hg, hR, hn⟩ := hp
    have hf : MvOk M f := hf
    have hg : MvOk M g := hg
    have hR : R.length ≤ 100 := hR
    refine ds_ifr (et_B (er_call1 (P := fun z => z = .d (.bool (lmove M R f g))) (M, R, f, g) (ea_cons (er_var rfl rfl) (ea_cons (er_var rfl rfl) (ea_cons (er_var rfl rfl) (ea_cons (er_var rfl rfl) ea_nil)))) ⟨hf, hg, hR⟩ fun s e => e)) (fun e => ?_) fun e => ?_
    · refine ds_ret (er_bl true) fun s es => ?_
      rw [es]
      show _ = Sh.d (.bool (lstep M R f g))
      rw [lstep_mv e]
    · have no : f.isNm = true ∨ g.isNm = true → DS K C none (tRet (tC (.bl false))) [some (.d (listN M)), some (.d (listR R)), some (.d f.d), some (.d g.d)] { rt := fun s => s = .d (.bool (lstep M R f g)) } := fun q => ds_ret (er_bl false) fun s es => by
        rw [es, lstep_nm q, e]
      cases f with
      | nm x => exact ds_ifr (et_is (et_or (a := true) (b := true) (et_isInt (f := .nm x) (er_var rfl rfl)) fun e => nomatch e) (b := true) rfl) (fun _ => no (.inl rfl)) fun e => nomatch e
      | op v a b =>
        cases g with
        | nm y => exact ds_ifr (et_is (et_or (a := false) (b := true || true) (et_isInt (f := .op v a b) (er_var rfl rfl)) fun _ => et_or (a := true) (b := true) (et_isInt (f := .nm y) (er_var rfl rfl)) fun e => nomatch e) (b := true) rfl) (fun _ => no (.inr rfl)) fun e => nomatch e
        | op u x y =>
          obtain ⟨fa, fb⟩ := mv_op hf
          obtain ⟨fx, fy⟩ := mv_op hg
          obtain ⟨na, nb⟩ := fdep hn
          have da := fa.dep
          have db := fb.dep
          have dx := fx.dep
          have dy := fy.dep
          have hst : lstep M R (.op v a b) (.op u x y) = if v ≠ u then false else (decide (a = x) && lstep M R b y) || (decide (b = y) && lstep M R a x) := by
            simp only [lstep]
            rw [e, Bool.false_or]
          have call : ∀ (s0 : Rho) (t1 t2 : TE) (p q : F), s0[0]? = some (some (.d (listN M))) → s0[1]? = some (some (.d (listR R))) → MvOk M p → MvOk M q → p.dep < n → EvX K C none t1 s0 (fun z => z = .d p.d) → EvX K C none t2 s0 (fun z => z = .d q.d) → EvX K C none (tCall (PLIsStep K C n) [] L2.E0 (tCons (tVar 0) (tCons (tVar 1) (tCons t1 (tCons t2 tNil))))) s0 (fun z => z = .d (.bool (lstep M R p q))) := fun s0 t1 t2 p q h0 h1 f1 f2 dn e1 e2 =>
            er_call1 (M, R, p, q) (ea_cons (er_var h0 rfl) (ea_cons (er_var h1 rfl) (ea_cons e1 (ea_cons e2 ea_nil)))) ⟨f1, f2, hR, dn⟩ fun s e => e
          refine ds_ifr (b := !decide (v = u)) (et_is (et_or (a := false) (b := false || !decide (v = u)) (et_isInt (f := .op v a b) (er_var rfl rfl)) fun _ => et_or (a := false) (et_isInt (f := .op u x y) (er_var rfl rfl)) fun _ => et_is (et_val (er_op (er_i0 (wd := v) (a := a) (b := b) (er_var rfl rfl)) (er_i0 (wd := u) (a := x) (b := y) (er_var rfl rfl)) (rx_neD (shaped_wd _) (shaped_wd _)))) (by rw [eqv_wd])) rfl) (fun e2 => ?_) fun e2 => ?_
          · refine ds_ret (er_bl false) fun s es => ?_
            rw [es]
            show _ = Sh.d (.bool (lstep M R (.op v a b) (.op u x y)))
            rw [hst, if_pos (by simpa using e2)]
          · have e2 : v = u := by simpa using e2
            subst e2
            rw [if_neg (by simp)] at hst
            refine ds_ifr (b := decide (a = x) && lstep M R b y) (et_and (et_val (er_eqF (f := a) (g := x) (er_i1 (wd := v) (a := a) (b := b) (er_var rfl rfl)) (er_i1 (wd := v) (a := x) (b := y) (er_var rfl rfl)) (by omega) (by omega))) fun _ => et_B (call _ _ _ b y rfl rfl fb fy nb (er_i2 (wd := v) (a := a) (b := b) (er_var rfl rfl)) (er_i2 (wd := v) (a := x) (b := y) (er_var rfl rfl)))) (fun e3 => ?_) fun e3 => ?_
            · refine ds_ret (er_bl true) fun s es => ?_
              rw [es]
              show _ = Sh.d (.bool (lstep M R (.op v a b) (.op v x y)))
              rw [hst, e3] <;> rfl
            · refine ds_ret (er_andV (er_eqF (f := b) (g := y) (er_i2 (wd := v) (a := a) (b := b) (er_var rfl rfl)) (er_i2 (wd := v) (a := x) (b := y) (er_var rfl rfl)) (by omega) (by omega)) fun _ => call _ _ _ a x rfl rfl fa fx na (er_i1 (wd := v) (a := a) (b := b) (er_var rfl rfl)) (er_i1 (wd := v) (a := x) (b := y) (er_var rfl rfl))) fun s es => ?_
              rw [es]
              show _ = Sh.d (.bool (lstep M R (.op v a b) (.op v x y)))
              rw [hst, e3, Bool.false_or]⟩
theorem anyF_none (n : Nat) : anyF n (fun _ => false) = false := by
  unfold anyF
  rw [List.any_eq_false]
  intro x _
  simp
theorem cl_LIsRoad (T : Bl K w mg C aW aP) (cW : Cl P w K mg base 10 "_law_formula_word" (PLFormulaWord K C)) (cS : Cl P w K mg base 11 "_law_is_step" (PLIsStep K C 8)) (d : Df K mg "_law_is_road" sLIsRoad ["_law_facts_here", "_law_marks_here", "_law_rows_here", "_law_one", "_law_other", "_law_value"]) : Cl P w K mg base 12 "_law_is_road" (PLIsRoad K C) :=
  pd_cl d scLIsRoad (fun _ => rfl) (fun _ => rfl) fun f cdv A outer s H E a hr hp => ⟨_, dvLIsRoad T cW (by omega) cS (by omega) hr, by
    obtain ⟨fc, M, R, g, h, l⟩ := a
    obtain ⟨hM, hR, hl, wk⟩ := hp
    have hM : M.length = fc.n := hM
    have hR : R.length ≤ 100 := hR
    have hl : RoadOk fc.n g h l := hl
    have mg' : g ∈ l := List.mem_of_mem_head? hl.hd
    have mh' : h ∈ l := List.mem_of_getLast? hl.la
    have dg := sz_dep (hl.ok g mg').2
    have dh := sz_dep (hl.ok h mh').2
    have sg : g.dep ≤ 60 := by omega
    have sh' : h.dep ≤ 60 := by omega
    have l1 := hl.l1
    have l40 := hl.l40
    refine ds_ifr (b := false) (et_is (et_or (a := !true) (b := false) (et_not (et_B (er_isi (x := .tuple (l.map F.d)) (er_var rfl rfl) (show kitB "tuple" "tuple" = some true by decide +kernel)))) fun _ => et_is (et_not (et_chain (er_int 1) (er_cb (ea_cons (er_var rfl rfl) ea_nil) (rxa_lenT (ds := l.map F.d))) (er_int 40) rx_le rx_le)) ?_) rfl) (fun e => nomatch e) fun _ => ?_
    · rw [List.length_map, decide_eq_true (show (1 : Int) ≤ (l.length : Int) by omega), decide_eq_true (show (l.length : Int) ≤ 40 by omega)] <;> rfl
    have mem : ∀ (i : Nat) d, (l.map F.d)[i]? = some d → ∃ x, d = F.d x ∧ l[i]? = some x ∧ FOk fc.n x := fun i d hd => by
      rw [List.getElem?_map] at hd
      cases q : l[i]? with
      | none =>
        rw [q] at hd
        cases hd
      | some x =>
        rw [q] at hd
        cases hd
        exact ⟨x, rfl, rfl, hl.ok x (List.mem_of_getElem? q)⟩
    refine ds_ifr (b := false) (et_is (et_val (er_onesNe (ds := l.map F.d) (fun _ => false) (it_tup (er_var rfl rfl)) (by rw [List.length_map]; show l.length < _; omega) fun i d hd => ?_)) (anyF_none _)) (fun e => nomatch e) fun _ => ?_
    · obtain ⟨x, rfl, hx, hfx⟩ := mem i d hd
      refine ⟨_, _, gt_nameD, fun _ h => h, ?_⟩
      exact et_is (et_val (er_op (er_call1 (P := fun z => z = .d .none) (fc.n, x) (ea_cons (er_op (er_var rfl rfl) (er_int 0) (rx_ixT fc_0)) (ea_cons (er_var rfl rfl) ea_nil)) hfx fun s e => e) er_non rx_notN)) rfl
    refine ds_ifr (b := false) (et_is (et_or (a := false) (b := false) (et_is (et_val (er_op (er_op (er_var rfl rfl) (er_int 0) (rx_ixT (x := g.d) (at_head (by rw [List.head?_map, hl.hd] <;> rfl)))) (er_var rfl rfl) (rx_neD (shaped_F sg) (shaped_F sg)))) (by rw [eqv_F]; simp)) fun _ => et_is (et_val (er_op (er_op (er_var rfl rfl) (er_neg (er_int 1)) (rx_ixT (x := h.d) (at_last (by rw [List.getLast?_map, hl.la] <;> rfl)))) (er_var rfl rfl) (rx_neD (shaped_F sh') (shaped_F sh')))) (by rw [eqv_F]; simp)) rfl) (fun e => nomatch e) fun _ => ?_
    refine ds_ret (P := fun z => z = .d (.bool true)) ((er_onesEq (ds := pairsD (l.map F.d) (cutD (l.map F.d) (some 1) none)) (fun _ => false) (it_zipT (ea_cons (er_var rfl rfl) (ea_cons (er_slT (er_var rfl rfl) (ep_some (er_int 1)) ep_none) ea_nil))) (by rw [pairs_len, List.length_map]; show min l.length _ < _; omega) fun i d hd => ?_).is (by rw [anyF_none] <;> rfl)) fun s e => e
    obtain ⟨dx, dy, hx, hy, rfl⟩ := pairs_get hd
    rw [cut1, List.getElem?_drop] at hy
    obtain ⟨x, rfl, gx, fx⟩ := mem i dx hx
    obtain ⟨y, rfl, gy, fy⟩ := mem (1 + i) dy hy
    refine ⟨_, _, gt_tup (xs := [x.d, y.d]) (gts_cons (x := .d x.d) (xs := [.d y.d]) gt_nameD (gts_cons (x := .d y.d) (xs := []) gt_nameD gts_nil)), fun _ h => h, ?_⟩
    have hxy := wk i x y gx (by rw [Nat.add_comm]; exact gy)
    have d1 := sz_dep fx.2
    have d2 := sz_dep fy.2
    refine et_is (et_not (et_B (er_call1 (P := fun z => z = .d (.bool true)) (M, R, x, y) (ea_cons (er_var rfl rfl) (ea_cons (er_var rfl rfl) (ea_cons (er_var rfl rfl) (ea_cons (er_var rfl rfl) ea_nil)))) ⟨⟨by rw [hM]; exact fx.1, show x.dep ≤ 40 by omega⟩, ⟨by rw [hM]; exact fy.1, show y.dep ≤ 40 by omega⟩, hR, d1⟩ fun s e => ?_))) rfl
    rw [e]
    show Sh.d (.bool (lstep M R x y)) = _
    rw [hxy]⟩

/-! plain forms -/
def tellF (R : List Ent) (v : Wd) (a b : F) : Option Nat := match a, b with
  | .nm x, .nm y => tell R v x y
  | _, _ => none
theorem tellF_cons (r : Ent) (rs : List Ent) (v : Wd) (a b : F) : tellF (r :: rs) v a b = if F.nm (pl v r).1 = a ∧ F.nm (pl v r).2.1 = b then some (pl v r).2.2 else tellF rs v a b := by
  cases a with
  | op _ _ _ => simp [tellF]
  | nm x =>
    cases b with
    | op _ _ _ => simp [tellF]
    | nm y =>
      show (if (pl v r).1 = x ∧ (pl v r).2.1 = y then some (pl v r).2.2 else tell rs v x y) = _
      by_cases h : (pl v r).1 = x ∧ (pl v r).2.1 = y
      · rw [if_pos h, if_pos ⟨by rw [h.1], by rw [h.2]⟩]
      · rw [if_neg h, if_neg fun z => h ⟨F.nm.inj z.1, F.nm.inj z.2⟩] <;> rfl
theorem topF_eq (M : List Nat) (R : List Ent) (v : Wd) (a b : F) : topF (lkn M R) v a b = match tellF R v a b with
    | some n => .nm n
    | none => match lfirst (lrules a b) (.op v a b) with
      | some f => f
      | none => .op v a b := by
  unfold topF
  cases a with
  | op _ _ _ => rfl
  | nm x =>
    cases b with
    | op _ _ _ => rfl
    | nm y => rfl
theorem topF_dep (k : Kn) (v : Wd) (a b : F) : (topF k v a b).dep ≤ 1 + max a.dep b.dep := by
  unfold topF
  split
  · simp only [F.dep]
    omega
  · split
    · rename_i f e
      have := (rules_dep (lfirst_mem e)).2
      simp only at this
      omega
    · exact Nat.le_refl _
theorem lplain_dep (k : Kn) : ∀ f, (lplain k f).dep ≤ f.dep
  | .nm x => Nat.le_refl _
  | .op v a b => by
    rw [lplain_op]
    have h1 := lplain_dep k a
    have h2 := lplain_dep k b
    have h3 := topF_dep k v (lplain k a) (lplain k b)
    show _ ≤ 1 + max a.dep b.dep
    omega
theorem er_eqNF {n : Nat} {f : F} (h1 : EvX K C m ta r (fun z => z = .d (natD n))) (h2 : EvX K C m tb r (fun z => z = .d f.d)) (hd : f.dep ≤ 60) : EvT K C m (tTest (tOp (rEqD K) ta tb)) r (fun z => z = decide (F.nm n = f)) :=
  et_val (er_eqF (f := .nm n) (g := f) h1 h2 (show 0 ≤ 60 by decide) hd)
theorem cl_LPlain (T : Bl K w mg C aW aP) (cR : Cl P w K mg base 1 "_law_rules" (PLRules K C)) (d : Df K mg "_law_plain" sLPlain ["_law_marks_here", "_law_rows_here", "_law_formula_here"]) : ∀ n, Cl P w K mg base (2 + n) "_law_plain" (PLPlain K C n)
  | 0 => pd_cl (k := 1) d scLPlain (fun _ => rfl) (fun _ => rfl) fun f cdv A outer s H E a hr hp => absurd hp.2.1 (Nat.not_lt_zero _)
  | n + 1 => pd_cl (k := 2 + n) d scLPlain (fun _ => rfl) (fun _ => rfl) fun f cdv A outer s H E a hr hp => ⟨_, dvLPlain T cR (by omega) (cl_LPlain T cR d n) (by omega) hr, by
    obtain ⟨M, R, g⟩ := a
    obtain ⟨hl, hn, h40⟩ := hp
    have h40 : g.dep ≤ 40 := h40
    cases g with
    | nm x =>
      have hx : x < M.length := of_decide_eq_true hl
      exact ds_ifr (b := true) (et_isInt (f := .nm x) (er_var rfl rfl)) (fun _ => ds_ret (er_mark hx (er_var rfl rfl) (er_var rfl rfl)) fun s e => e) fun e => nomatch e
    | op v a b =>
      obtain ⟨l1, l2⟩ := flt hl
      obtain ⟨n1, n2⟩ := fdep hn
      have h40' : 1 + max a.dep b.dep ≤ 40 := h40
      refine ds_ifr (b := false) (et_isInt (f := .op v a b) (er_var rfl rfl)) (fun e => nomatch e) fun _ => ?_
      have da := lplain_dep (lkn M R) a
      have db := lplain_dep (lkn M R) b
      obtain ⟨a', ea⟩ : ∃ a', a' = lplain (lkn M R) a := ⟨_, rfl⟩
      obtain ⟨b', eb⟩ : ∃ b', b' = lplain (lkn M R) b := ⟨_, rfl⟩
      have hres : lplain (lkn M R) (.op v a b) = match tellF R v a' b' with
          | some n => .nm n
          | none => match lfirst (lrules a' b') (.op v a' b') with
            | some f => f
            | none => .op v a' b' := by
        rw [lplain_op, ← ea, ← eb]
        exact topF_eq M R v a' b'
      rw [← ea] at da
      rw [← eb] at db
      refine ds_par3 (s1 := .str v.s) (s2 := a'.d) (s3 := b'.d) (ea_cons (er_i0 (wd := v) (a := a) (b := b) (er_var rfl rfl)) (ea_cons (er_call1 (P := fun z => z = .d a'.d) (M, R, a) (ea_cons (er_var rfl rfl) (ea_cons (er_var rfl rfl) (ea_cons (er_i1 (wd := v) (a := a) (b := b) (er_var rfl rfl)) ea_nil))) ⟨l1, n1, show a.dep ≤ 40 by omega⟩ fun s e => by rw [e, ea]) (ea_cons (er_call1 (P := fun z => z = .d b'.d) (M, R, b) (ea_cons (er_var rfl rfl) (ea_cons (er_var rfl rfl) (ea_cons (er_i2 (wd := v) (a := a) (b := b) (er_var rfl rfl)) ea_nil))) ⟨l2, n2, show b.dep ≤ 40 by omega⟩ fun s e => by rw [e, eb]) ea_nil))) ?_
      refine ds_asg (er_wplaces (v := v) (er_var rfl rfl)) gt_places ?_
      refine ds_for (ds := R.map rowD) (it_list (er_var rfl rfl)) (fun i r => (∃ x, r = [some (.d (listN M)), some (.d (listR R)), some (.d (F.op v a b).d), some (.d (.str v.s)), some (.d a'.d), some (.d b'.d), some (.d (natD (pp v).1)), some (.d (natD (pp v).2.1)), some (.d (natD (pp v).2.2)), x, none, none]) ∧ tellF (R.drop i) v a' b' = tellF R v a' b') ⟨⟨none, rfl⟩, rfl⟩ (fun i d r' hd ⟨⟨x, hz⟩, ht⟩ => ?_) fun r' ⟨⟨x, hz⟩, ht⟩ => ?_
      · subst hz
        obtain ⟨hi, rfl⟩ := rows_at hd
        rw [List.drop_eq_getElem_cons hi, tellF_cons] at ht
        refine ⟨_, _, gt_nameD, ds_if1 (b := decide (F.nm (pl v R[i]).1 = a') && decide (F.nm (pl v R[i]).2.1 = b')) (et_and (er_eqNF (er_row0 (v := v) (e := R[i]) (er_var rfl rfl) (er_var rfl rfl)) (er_var rfl rfl) (by omega)) fun _ => er_eqNF (er_row1 (v := v) (e := R[i]) (er_var rfl rfl) (er_var rfl rfl)) (er_var rfl rfl) (by omega)) (fun e => ?_) fun e => ?_⟩
        · rw [Bool.and_eq_true, decide_eq_true_eq, decide_eq_true_eq] at e
          rw [if_pos e] at ht
          refine ds_ret (er_row2 (v := v) (e := R[i]) (er_var rfl rfl) (er_var rfl rfl)) fun s es => ?_
          rw [es]
          show _ = Sh.d (lplain (lkn M R) (.op v a b)).d
          rw [hres, ← ht] <;> rfl
        · refine ds_next ⟨⟨_, rfl⟩, ?_⟩
          rw [← ht, if_neg fun q => by rw [decide_eq_true q.1, decide_eq_true q.2] at e; cases e]
      · subst hz
        rw [List.length_map, List.drop_length] at ht
        have ht : tellF R v a' b' = none := by
          rw [← ht]
          cases a' with
          | op _ _ _ => rfl
          | nm _ => cases b' <;> rfl
        rw [ht] at hres
        refine ds_for (ds := (lrules a' b').map pairFD) (it_list (er_tl (er_rules (v := v) (a := a') (b := b') (er_var rfl rfl) (er_var rfl rfl) (er_var rfl rfl)))) (fun i r => (∃ y z, r = [some (.d (listN M)), some (.d (listR R)), some (.d (F.op v a b).d), some (.d (.str v.s)), some (.d a'.d), some (.d b'.d), some (.d (natD (pp v).1)), some (.d (natD (pp v).2.1)), some (.d (natD (pp v).2.2)), x, y, z]) ∧ lfirst ((lrules a' b').drop i) (.op v a' b') = lfirst (lrules a' b') (.op v a' b')) ⟨⟨none, none, rfl⟩, rfl⟩ (fun i d r' hd ⟨⟨y, z, hz⟩, ht2⟩ => ?_) fun r' ⟨⟨y, z, hz⟩, ht2⟩ => ?_
        · subst hz
          rw [List.getElem?_map] at hd
          cases hg : (lrules a' b')[i]? with
          | none =>
            rw [hg] at hd
            cases hd
          | some p =>
            rw [hg] at hd
            cases hd
            obtain ⟨hi, ep⟩ := List.getElem?_eq_some_iff.mp hg
            rw [List.drop_eq_getElem_cons hi, ep] at ht2
            have dp := rules_dep (List.mem_of_getElem? hg)
            refine ⟨_, _, gt_tup (xs := [p.1.d, p.2.d]) (gts_cons (x := .d p.1.d) (xs := [.d p.2.d]) gt_nameD (gts_cons (x := .d p.2.d) (xs := []) gt_nameD gts_nil)), ds_if1 (et_val (er_eqF (f := p.1) (g := .op v a' b') (er_var rfl rfl) (er_opF (v := v) (x := a') (y := b') (er_var rfl rfl) (er_var rfl rfl) (er_var rfl rfl)) (by omega) (show 1 + max a'.dep b'.dep ≤ 60 by omega))) (fun e => ?_) fun e => ?_⟩
            · have e := of_decide_eq_true e
              have e3 : lfirst (lrules a' b') (.op v a' b') = some p.2 := by
                rw [← ht2]
                exact if_pos e
              refine ds_ret (er_var rfl rfl) fun s es => ?_
              rw [es]
              show _ = Sh.d (lplain (lkn M R) (.op v a b)).d
              rw [hres, e3]
            · have e := of_decide_eq_false e
              refine ds_next ⟨⟨_, _, rfl⟩, ?_⟩
              rw [← ht2]
              exact (if_neg e).symm
        · subst hz
          rw [List.length_map, List.drop_length] at ht2
          refine ds_ret (er_opF (v := v) (x := a') (y := b') (er_var rfl rfl) (er_var rfl rfl) (er_var rfl rfl)) fun s es => ?_
          rw [es]
          show _ = Sh.d (lplain (lkn M R) (.op v a b)).d
          rw [hres, ← ht2] <;> rfl⟩
end
end RD

end
section
set_option linter.all false
set_option maxRecDepth 100000
set_option maxHeartbeats 4000000
/-! M6: the law's own marks, as plain functions. -/
namespace RD
open PySem PySem.Spec PyProof.Rows L2
structure LS (n : Nat) (es : List Ent) (M : List Nat) : Prop where
  len : M.length = n
  le : ∀ x, mk M x ≤ x
  idem : ∀ x, mk M (mk M x) = mk M x
  sound : ∀ t, Closed es t → ∀ x, t (mk M x) = t x
def BadP (M : List Nat) (w : Wd) (e e' : Ent) : Prop := mk M (pl w e).1 = mk M (pl w e').1 ∧ mk M (pl w e).2.1 = mk M (pl w e').2.1 ∧ mk M (pl w e).2.2 < mk M (pl w e').2.2
def mrg (lo hi v : Nat) : Nat := if v = hi then lo else v
theorem mk_far {M : List Nat} {x : Nat} (h : M.length ≤ x) : mk M x = x := by
  unfold mk
  rw [List.getD_eq_getElem?_getD, List.getElem?_eq_none h] <;> rfl
theorem mk_map {M : List Nat} {f : Nat → Nat} {x : Nat} (h : x < M.length) : mk (M.map f) x = f (mk M x) := by
  unfold mk
  rw [List.getD_eq_getElem?_getD, List.getD_eq_getElem?_getD, List.getElem?_map, List.getElem?_eq_getElem h] <;> rfl
theorem range_mk (n x : Nat) : mk (List.range n) x = x := range_getD n x
def cntM (M : List Nat) : Nat := (List.range M.length).countP fun x => decide (mk M x = x)
section
variable {n : Nat} {es : List Ent} {M : List Nat} {w : Wd} {e e' : Ent}
theorem ls_start (n : Nat) (es : List Ent) : LS n es (List.range n) :=
  ⟨List.length_range, fun x => by rw [range_mk]; exact Nat.le_refl x, fun x => by rw [range_mk, range_mk], fun t _ x => by rw [range_mk]⟩
theorem ls_end (h : LS n es M) (hb : ∀ w, ∀ e ∈ es, ∀ e' ∈ es, ¬ BadP M w e e') : IsMk n es M := by
  refine ⟨h.len, h.le, h.idem, fun w e he e' he' e1 e2 => ?_, h.sound⟩
  have a := hb w e he e' he'
  have b := hb w e' he' e he
  by_cases c : mk M (pl w e).2.2 < mk M (pl w e').2.2
  · exact absurd ⟨e1, e2, c⟩ a
  · by_cases d : mk M (pl w e').2.2 < mk M (pl w e).2.2
    · exact absurd ⟨e1.symm, e2.symm, d⟩ b
    · omega
theorem ls_merge (h : LS n es M) (hl : RowsOk n es) (he : e ∈ es) (he' : e' ∈ es) (hb : BadP M w e e') :
    LS n es (M.map (mrg (mk M (pl w e).2.2) (mk M (pl w e').2.2))) ∧ cntM (M.map (mrg (mk M (pl w e).2.2) (mk M (pl w e').2.2))) < cntM M := by
  obtain ⟨b1, b2, b3⟩ := hb
  have l1 := (pl_lt (hl e he) w).2.2
  have l2 := (pl_lt (hl e' he') w).2.2
  have hlen := h.len
  obtain ⟨lo, hlo⟩ : ∃ lo, lo = mk M (pl w e).2.2 := ⟨_, rfl⟩
  obtain ⟨hi, hhi⟩ : ∃ hi, hi = mk M (pl w e').2.2 := ⟨_, rfl⟩
  rw [← hlo, ← hhi]
  rw [← hlo, ← hhi] at b3
  have flo : mk M lo = lo := by rw [hlo]; exact h.idem _
  have fhi : mk M hi = hi := by rw [hhi]; exact h.idem _
  have hin : hi < n := by
    have := h.le (pl w e').2.2
    omega
  have lon : lo < n := by omega
  have ev : ∀ x, mk (M.map (mrg lo hi)) x = if mk M x = hi then lo else mk M x := fun x => by
    by_cases hx : x < M.length
    · rw [mk_map hx] <;> rfl
    · rw [mk_far (by rw [List.length_map]; omega), mk_far (by omega), if_neg (by omega)]
  refine ⟨⟨by rw [List.length_map]; exact h.len, fun x => ?_, fun x => ?_, fun t ht x => ?_⟩, ?_⟩
  · rw [ev]
    have := h.le x
    split <;> omega
  · rw [ev x]
    split
    · rw [ev, flo, if_neg (by omega)]
    · rename_i q
      rw [ev, h.idem, if_neg q]
  · rw [ev]
    split
    · rename_i q
      have s1 := h.sound t ht (pl w e).2.2
      have s2 := h.sound t ht (pl w e').2.2
      have sx := h.sound t ht x
      rw [q] at sx
      rw [← hlo] at s1
      rw [← hhi] at s2
      have k := ht w e he e' he' (by rw [← h.sound t ht (pl w e).1, ← h.sound t ht (pl w e').1, b1]) (by rw [← h.sound t ht (pl w e).2.1, ← h.sound t ht (pl w e').2.1, b2])
      rw [s1, k, ← s2, sx]
    · exact h.sound t ht x
  · unfold cntM
    rw [List.length_map]
    refine countP_lt (fun x _ q => ?_) ⟨hi, List.mem_range.mpr (by omega), decide_eq_true fhi, decide_eq_false (by rw [ev, if_pos fhi]; omega)⟩
    have q := of_decide_eq_true q
    rw [ev] at q
    refine decide_eq_true ?_
    split at q
    · rename_i z
      rw [← q, flo] at z
      omega
    · exact q
theorem cntM_start : cntM (List.range n) ≤ n := by
  unfold cntM
  have := List.countP_le_length (p := fun x => decide (mk (List.range n) x = x)) (l := List.range (List.range n).length)
  rw [List.length_range, List.length_range] at this
  rw [List.length_range]
  exact this
theorem cntM_pos (h : LS n es M) (hn : 1 ≤ n) : 1 ≤ cntM M := by
  unfold cntM
  have h0 : mk M 0 = 0 := by
    have := h.le 0
    omega
  exact List.countP_pos_iff.mpr ⟨0, List.mem_range.mpr (by rw [h.len]; exact hn), decide_eq_true h0⟩
end
/-- the first j of them under f -/
def upto (f : Nat → Nat) (M : List Nat) (j : Nat) : List Nat := (M.take j).map f ++ M.drop j
theorem upto_0 (f : Nat → Nat) (M : List Nat) : upto f M 0 = M := rfl
theorem upto_all (f : Nat → Nat) (M : List Nat) : upto f M M.length = M.map f := by
  unfold upto
  rw [List.take_length, List.drop_length, List.append_nil]
theorem upto_len (f : Nat → Nat) (M : List Nat) (j : Nat) : (upto f M j).length = M.length := by
  unfold upto
  rw [List.length_append, List.length_map, List.length_take, List.length_drop]
  omega
theorem upto_at {f : Nat → Nat} {M : List Nat} {j : Nat} (h : j < M.length) : mk (upto f M j) j = mk M j := by
  unfold mk upto
  rw [List.getD_eq_getElem?_getD, List.getD_eq_getElem?_getD, List.getElem?_append_right (by rw [List.length_map, List.length_take]; omega), List.length_map, List.length_take, List.getElem?_drop]
  have : j + (j - min j M.length) = j := by omega
  rw [this]
theorem upto_succ {f : Nat → Nat} {M : List Nat} {j : Nat} (h : j < M.length) : upto f M (j + 1) = (upto f M j).set j (f (mk M j)) := by
  unfold upto mk
  rw [List.set_append_right _ _ (by rw [List.length_map, List.length_take]; omega), List.length_map, List.length_take]
  have e1 : j - min j M.length = 0 := by omega
  rw [e1, List.drop_eq_getElem_cons h, List.take_add_one, List.getElem?_eq_getElem h, List.map_append, List.getD_eq_getElem?_getD, List.getElem?_eq_getElem h, List.append_assoc] <;> rfl
theorem upto_same {f : Nat → Nat} {M : List Nat} {j : Nat} (h : j < M.length) (e : f (mk M j) = mk M j) : upto f M (j + 1) = upto f M j := by
  rw [upto_succ h, e]
  apply List.ext_getElem?
  intro i
  rw [List.getElem?_set]
  by_cases q : j = i
  · subst q
    rw [if_pos rfl, if_pos (by rw [upto_len]; exact h)]
    have := upto_at (f := f) h
    unfold mk at this
    rw [List.getD_eq_getElem?_getD, List.getElem?_eq_getElem (by rw [upto_len]; exact h)] at this
    rw [List.getElem?_eq_getElem (by rw [upto_len]; exact h)]
    exact congrArg some this.symm
  · rw [if_neg q]
/-- the root, if there is one -/
noncomputable def rho (es : List Ent) : Nat → Nat := open Classical in if h : ∃ p, IsRoot es p then h.choose else id
theorem rho_is {es : List Ent} {p : Nat → Nat} (h : IsRoot es p) : rho es = p := by
  unfold rho
  rw [dif_pos ⟨p, h⟩]
  exact (Exists.choose_spec (⟨p, h⟩ : ∃ p, IsRoot es p)).uniq h
def subs : Nat → List (List Nat)
  | 0 => [[]]
  | k + 1 => subs k ++ (subs k).map (· ++ [k])
theorem subs_len : ∀ k, (subs k).length = 2 ^ k
  | 0 => rfl
  | k + 1 => by
    show (subs k ++ (subs k).map (· ++ [k])).length = _
    rw [List.length_append, List.length_map, subs_len k, Nat.pow_succ]
    omega
theorem lots_ok : ∀ k, (∀ l ∈ subs k, ∀ x ∈ l, x < k) ∧ (∀ l ∈ subs k, l.length ≤ k) ∧ List.range k ∈ subs k
  | 0 => ⟨(fun l hl x hx => by rw [List.mem_singleton.mp hl] at hx; cases hx), (fun l hl => by rw [List.mem_singleton.mp hl]; exact Nat.le_refl _), List.mem_singleton.mpr rfl⟩
  | k + 1 => by
    obtain ⟨h1, h2, h3⟩ := lots_ok k
    refine ⟨fun l hl x hx => ?_, fun l hl => ?_, ?_⟩
    · rcases List.mem_append.mp hl with c | c
      · have := h1 l c x hx
        omega
      · obtain ⟨l', hl', rfl⟩ := List.mem_map.mp c
        rcases List.mem_append.mp hx with d | d
        · have := h1 l' hl' x d
          omega
        · rw [List.mem_singleton.mp d]
          omega
    · rcases List.mem_append.mp hl with c | c
      · have := h2 l c
        omega
      · obtain ⟨l', hl', rfl⟩ := List.mem_map.mp c
        have := h2 l' hl'
        rw [List.length_append]
        show l'.length + 1 ≤ k + 1
        omega
    · rw [List.range_succ]
      exact List.mem_append_right _ (List.mem_map.mpr ⟨_, h3, rfl⟩)
theorem pick_all (fc : Fc) : pickE fc (List.range fc.es.length) = fc.es := by
  unfold pickE
  apply List.ext_getElem?
  intro i
  have : ∀ (l : List Ent) (k : Nat), k ≤ l.length → (List.range k).filterMap (fun i => l[i]?) = l.take k := by
    intro l k
    induction k with
    | zero => intro _; rfl
    | succ k ih =>
      intro hk
      rw [List.range_succ, List.filterMap_append, ih (by omega), List.take_add_one]
      simp [List.getElem?_eq_getElem (show k < l.length by omega)]
  rw [this fc.es fc.es.length (Nat.le_refl _), List.take_length]
end RD

end
section
set_option linter.all false
set_option maxRecDepth 100000
set_option maxHeartbeats 4000000
/-! N3: the law's rows, close, marks. -/
namespace RD
open PySem PySem.Spec PyProof.Rows L2
section
variable {P : Program} {w : World} {K : PySem.W.Frag} {mg : Str → Option Value} {base : Heap} {C aW aP : Addr} {m : Option Addr} {r : Rho} {ta tb te : TE} {tu : TS} {O : Out} {wi : TI} {g : TG} {t : TT} {tz : TS}
theorem ds_last (h : DS K C m (tSeq tu tNext) r O) : DS K C m tu r O := fun S0 H0 σ S H D => h S0 H0 σ S H D
def mapD (t : Nat → Nat) : PyData → PyData
  | .int i => natD (t i.toNat)
  | d => d
def mapRowD (t : Nat → Nat) : PyData → PyData
  | .tuple ds => .tuple (ds.map (mapD t))
  | d => d
theorem mapRow_eq (t : Nat → Nat) (r : Ent) : mapRowD t (rowD r) = rowD (img t r) := by
  obtain ⟨x, y, z⟩ := r
  show PyData.tuple [natD (t (x : Int).toNat), natD (t (y : Int).toNat), natD (t (z : Int).toNat)] = _
  rw [Int.toNat_natCast, Int.toNat_natCast, Int.toNat_natCast] <;> rfl
theorem cl_LRows (T : Bl K w mg C aW aP) (d : Df K mg "_law_rows" sLRows ["_law_facts_here", "_law_marks_here"]) : Cl P w K mg base 1 "_law_rows" (PLRows K C) :=
  pd_cl d scLRows (fun _ => rfl) (fun _ => rfl) fun f cdv A outer s H E a hr hp => ⟨_, dvLRows T hr, by
    obtain ⟨fc, M⟩ := a
    obtain ⟨ho, hM⟩ := hp
    have ho : FcOk fc := ho
    have hM : IsMk fc.n fc.es M := hM
    have lst : EvX K C none (tLc (iTup K (tOp (rIx K) (tVar 0) (tC (.int 1)))) (gName 2) tYes (tCB (rTupOf K) (tCons (tLc (iTup K (tVar 2)) (gName 3) tYes (tOp (rIx K) (tVar 1) (tVar 3)) [3]) tNil)) [2]) [some (.d fc.d), some (.d (listN M)), none, none] (fun z => z = .d (.list ((fc.es.map (img (mk M))).map rowD))) := by
      refine (er_ownD (eo_lcM (mapRowD (mk M)) (it_tup (er_op (er_var rfl rfl) (er_int 1) (rx_ixT fc_1))) (by rw [List.length_map]; have := ho.el; show fc.es.length < _; omega) fun i d hd' => ?_)).is (by
        rw [List.map_map, List.map_map]
        exact congrArg (fun l => Sh.d (.list l)) (List.map_congr_left fun r _ => mapRow_eq (mk M) r))
      obtain ⟨hi, rfl⟩ := rows_at hd'
      obtain ⟨l1, l2, l3⟩ := ho.es _ (List.getElem_mem hi)
      refine ⟨_, _, gt_nameD, fun _ h => h, ?_⟩
      refine (er_cb (ea_cons (er_ownD (eo_lcM (mapD (mk M)) (it_tup (ds := [natD (fc.es[i]).1, natD (fc.es[i]).2.1, natD (fc.es[i]).2.2]) (er_var rfl rfl)) (show 3 < 100000 by decide) fun j d hd2 => ?_)) ea_nil) rxa_tupL).is rfl
      refine ⟨_, _, gt_nameD, fun _ h => h, ?_⟩
      have key : ∀ x : Nat, d = natD x → x < fc.n → EvX K C none (tOp (rIx K) (tVar 1) (tVar 3)) [some (.d fc.d), some (.d (listN M)), some (.d (rowD fc.es[i])), some (.d d)] (fun z => z = .d (mapD (mk M) d)) := fun x ed hx => by
        subst ed
        refine (er_mark (M := M) (x := x) (by rw [hM.len]; exact hx) (er_var rfl rfl) (er_var rfl rfl)).is ?_
        show Sh.d (natD (mk M x)) = Sh.d (natD (mk M (x : Int).toNat))
        rw [Int.toNat_natCast]
      match j, hd2 with
      | 0, hd2 =>
        cases hd2
        exact key _ rfl l1
      | 1, hd2 =>
        cases hd2
        exact key _ rfl l2
      | 2, hd2 =>
        cases hd2
        exact key _ rfl l3
      | j + 3, hd2 => exact absurd hd2 (by simp)
    refine ds_retO (eo_sortRows (n := 64) lst (fun r' hr' => ?_) (by decide) (by rw [List.length_map]; have := ho.el; omega)) fun xs ⟨R, e, h1, h64⟩ => ⟨R, by rw [e], fun r => ?_, by omega⟩
    · obtain ⟨r0, m0, rfl⟩ := List.mem_map.mp hr'
      obtain ⟨a1, a2, a3⟩ := ho.es r0 m0
      have n8 := ho.n8
      have q1 := hM.root.le r0.1
      have q2 := hM.root.le r0.2.1
      have q3 := hM.root.le r0.2.2
      exact ⟨show mk M r0.1 < 64 by omega, show mk M r0.2.1 < 64 by omega, show mk M r0.2.2 < 64 by omega⟩
    · rw [h1]
      constructor
      · intro hm
        obtain ⟨r0, m0, e0⟩ := List.mem_map.mp hm
        exact ⟨r0, m0, e0.symm⟩
      · intro ⟨r0, m0, e0⟩
        exact List.mem_map.mpr ⟨r0, m0, e0.symm⟩⟩
/-- marks[x], the marks an own list -/
theorem er_markO {i : Nat} {l : Addr} {M : List Nat} {x : Nat} (hi : r[i]? = some (some (.own l (M.map natD)))) (hx : x < M.length) (h2 : EvX K C m tb r (fun z => z = .d (natD x))) : EvX K C m (tOp (rIx K) (tVar i) tb) r (fun z => z = .d (natD (mk M x))) :=
  er_ixO hi h2 (atI_natD hx)
def trip : Nat → Wd
  | 0 => .wi
  | 1 => .be
  | _ => .ah
theorem trip_at {k : Nat} {d : PyData} (h : ([placesD .wi, placesD .be, placesD .ah] : List PyData)[k]? = some d) : d = placesD (trip k) ∧ k < 3 := by
  match k, h with
  | 0, h => cases h; exact ⟨rfl, by decide⟩
  | 1, h => cases h; exact ⟨rfl, by decide⟩
  | 2, h => cases h; exact ⟨rfl, by decide⟩
  | k + 3, h => exact absurd h (by simp)
theorem er_trips : EvX K C m (tLst (tCons (tTup (tCons (tC (.int 0)) (tCons (tC (.int 1)) (tCons (tC (.int 2)) tNil)))) (tCons (tTup (tCons (tC (.int 0)) (tCons (tC (.int 2)) (tCons (tC (.int 1)) tNil)))) (tCons (tTup (tCons (tC (.int 1)) (tCons (tC (.int 2)) (tCons (tC (.int 0)) tNil)))) tNil)))) r (fun z => z = .d (.list [placesD .wi, placesD .be, placesD .ah])) := by
  have k : ∀ a b c : Nat, EvX K C m (tTup (tCons (tC (.int a)) (tCons (tC (.int b)) (tCons (tC (.int c)) tNil)))) r (fun z => z = .d (.tuple [natD a, natD b, natD c])) := fun a b c => er_tup (xs := [natD a, natD b, natD c]) (ea_cons (er_int a) (ea_cons (er_int b) (ea_cons (er_int c) ea_nil))) (show 3 ≤ 100000 by decide)
  exact er_lst (xs := [placesD .wi, placesD .be, placesD .ah]) (ea_cons (k 0 1 2) (ea_cons (k 0 2 1) (ea_cons (k 1 2 0) ea_nil))) (show 3 ≤ 100000 by decide)
/-- which pairs are found so far -/
structure PrOk (M : List Nat) (es : List Ent) (ps : List (Nat × Nat)) (done : Nat → Nat → Nat → Prop) : Prop where
  ok : ∀ p ∈ ps, ∃ w, ∃ e ∈ es, ∃ e' ∈ es, BadP M w e e' ∧ p = (mk M (pl w e).2.2, mk M (pl w e').2.2)
  all : ps = [] → ∀ i j k, done i j k → ∀ e e', es[i]? = some e → es[j]? = some e' → ¬ BadP M (trip k) e e'
abbrev cRho (l : Addr) (M : List Nat) (es : List Ent) (x2 x3 x4 x5 x6 x7 x8 x9 x10 x11 : Option Sh) : Rho := [some (.own l (M.map natD)), some (.d (listR es)), x2, x3, x4, x5, x6, x7, x8, x9, x10, x11]
/-- the innermost turn -/
theorem ds_pair {l l3 : Addr} {M : List Nat} {es : List Ent} {n : Nat} {ps : List (Nat × Nat)} {x2 x9 x10 x11 : Option Sh} {e e' : Ent} {v : Wd} {O : Out} (hM : M.length = n) (h1 : e.1 < n ∧ e.2.1 < n ∧ e.2.2 < n) (h2 : e'.1 < n ∧ e'.2.1 < n ∧ e'.2.2 < n) (hz : ps.length < 100000)
    (k1 : BadP M v e e' → O.nx (cRho l M es x2 (some (.own l3 ((ps ++ [(mk M (pl v e).2.2, mk M (pl v e').2.2)]).map duoD))) (some (.d (rowD e))) (some (.d (rowD e'))) (some (.d (natD (pp v).1))) (some (.d (natD (pp v).2.1))) (some (.d (natD (pp v).2.2))) x9 x10 x11))
    (k2 : ¬ BadP M v e e' → O.nx (cRho l M es x2 (some (.own l3 (ps.map duoD))) (some (.d (rowD e))) (some (.d (rowD e'))) (some (.d (natD (pp v).1))) (some (.d (natD (pp v).2.1))) (some (.d (natD (pp v).2.2))) x9 x10 x11)) :
    DS K C m (tIfS (tAnd (tTest (tOp (rEqD K) (tOp (rIx K) (tVar 0) (tOp (rIx K) (tVar 4) (tVar 6))) (tOp (rIx K) (tVar 0) (tOp (rIx K) (tVar 5) (tVar 6))))) (tTest (tOp (rEqD K) (tOp (rIx K) (tVar 0) (tOp (rIx K) (tVar 4) (tVar 7))) (tOp (rIx K) (tVar 0) (tOp (rIx K) (tVar 5) (tVar 7)))))) (tIfS (tTest (tOp (rI0 fun i j => .bl (decide (i < j))) (tOp (rIx K) (tVar 0) (tOp (rIx K) (tVar 4) (tVar 8))) (tOp (rIx K) (tVar 0) (tOp (rIx K) (tVar 5) (tVar 8))))) (tDrop (tBM K "list" rAppend (tVar 3) (tCons (tTup (tCons (tOp (rIx K) (tVar 0) (tOp (rIx K) (tVar 4) (tVar 8))) (tCons (tOp (rIx K) (tVar 0) (tOp (rIx K) (tVar 5) (tVar 8))) tNil))) tNil))) tNext) tNext)
      (cRho l M es x2 (some (.own l3 (ps.map duoD))) (some (.d (rowD e))) (some (.d (rowD e'))) (some (.d (natD (pp v).1))) (some (.d (natD (pp v).2.1))) (some (.d (natD (pp v).2.2))) x9 x10 x11) O := by
  obtain ⟨a1, a2, a3⟩ := pl_lt h1 v
  obtain ⟨b1, b2, b3⟩ := pl_lt h2 v
  rw [← hM] at a1 a2 a3 b1 b2 b3
  have m4 := fun (hx : (pl v e).2.2 < M.length) => er_markO (K := K) (C := C) (m := m) (r := cRho l M es x2 (some (.own l3 (ps.map duoD))) (some (.d (rowD e))) (some (.d (rowD e'))) (some (.d (natD (pp v).1))) (some (.d (natD (pp v).2.1))) (some (.d (natD (pp v).2.2))) x9 x10 x11) (i := 0) (tb := tOp (rIx K) (tVar 4) (tVar 8)) rfl hx (er_row2 (v := v) (e := e) (er_var rfl rfl) (er_var rfl rfl))
  have m5 := fun (hx : (pl v e').2.2 < M.length) => er_markO (K := K) (C := C) (m := m) (r := cRho l M es x2 (some (.own l3 (ps.map duoD))) (some (.d (rowD e))) (some (.d (rowD e'))) (some (.d (natD (pp v).1))) (some (.d (natD (pp v).2.1))) (some (.d (natD (pp v).2.2))) x9 x10 x11) (i := 0) (tb := tOp (rIx K) (tVar 5) (tVar 8)) rfl hx (er_row2 (v := v) (e := e') (er_var rfl rfl) (er_var rfl rfl))
  refine ds_if1 (et_and (et_eqN (er_markO rfl a1 (er_row0 (v := v) (e := e) (er_var rfl rfl) (er_var rfl rfl))) (er_markO rfl b1 (er_row0 (v := v) (e := e') (er_var rfl rfl) (er_var rfl rfl)))) fun _ => et_eqN (er_markO rfl a2 (er_row1 (v := v) (e := e) (er_var rfl rfl) (er_var rfl rfl))) (er_markO rfl b2 (er_row1 (v := v) (e := e') (er_var rfl rfl) (er_var rfl rfl)))) (fun q => ?_) fun q => ds_next (k2 fun z => ?_)
  · rw [Bool.and_eq_true, decide_eq_true_eq, decide_eq_true_eq] at q
    refine ds_if1 (et_val (er_op (m4 a3) (m5 b3) rx_lt)) (fun q2 => ?_) fun q2 => ds_next (k2 fun z => ?_)
    · have q2 := of_decide_eq_true q2
      refine ds_app (y := duoD (mk M (pl v e).2.2, mk M (pl v e').2.2)) rfl (er_tup (xs := [natD (mk M (pl v e).2.2), natD (mk M (pl v e').2.2)]) (ea_cons (m4 a3) (ea_cons (m5 b3) ea_nil)) (show 2 ≤ 100000 by decide)) (by rw [List.length_map]; exact hz) ?_
      have := k1 ⟨q.1, q.2, by omega⟩
      rw [List.map_append] at this
      exact this
    · have q2 := of_decide_eq_false q2
      have := z.2.2
      omega
  · rw [decide_eq_true z.1, decide_eq_true z.2.1] at q
    cases q
theorem duos_nil (ps : List (Nat × Nat)) : PyData.eqv (.list (ps.map duoD)) (.list []) = decide (ps = []) := by
  rw [eqv_nil]
  cases ps <;> simp
theorem shaped_duos (ps : List (Nat × Nat)) : SeqAt.shaped (.list (ps.map duoD)) = true := by
  refine shaped_lst (fun d hd => ?_) (fun d hd => ?_)
  · obtain ⟨p, _, rfl⟩ := List.mem_map.mp hd
    simp only [duoD, PyData.canLay0, PyData.canLayAll0, natD] <;> rfl
  · obtain ⟨p, _, rfl⟩ := List.mem_map.mp hd
    simp only [duoD, PyData.depth, PyData.depthAll, natD]
    omega
end
end RD

end
section
set_option linter.all false
set_option maxRecDepth 100000
set_option maxHeartbeats 4000000
/-! N4: the law's close, marks. -/
namespace RD
open PySem PySem.Spec PyProof.Rows L2
section
variable {P : Program} {w : World} {K : PySem.W.Frag} {mg : Str → Option Value} {base : Heap} {C aW aP : Addr} {m : Option Addr} {r : Rho} {ta tb te : TE} {tu : TS} {O : Out} {wi : TI} {g : TG} {t : TT} {tz : TS}
theorem range_at {n i : Nat} {d : PyData} (h : (rangeD 0 n)[i]? = some d) : d = natD i ∧ i < n := by
  unfold rangeD at h
  rw [List.getElem?_map] at h
  by_cases hi : i < n
  · rw [List.getElem?_range hi] at h
    cases h
    refine ⟨?_, hi⟩
    show PyData.int (0 + (i : Int)) = _
    rw [Int.zero_add]
  · rw [List.getElem?_eq_none (by rw [List.length_range]; omega)] at h
    cases h
theorem range_len (n : Nat) : (rangeD 0 n).length = n := by
  unfold rangeD
  rw [List.length_map, List.length_range]
/-- for .. in range(n) of a natural -/
theorem it_rangeN {n : Nat} (h : EvX K C m te r (fun z => z = .d (natD n))) (hn : n ≤ 1000000) : ItX K C m (iRng1 (tCons te tNil)) r (rangeD 0 n) := by
  have := it_range1 (K := K) (C := C) (m := m) (r := r) (tA := tCons te tNil) (n := (n : Int)) (ea_cons h ea_nil) (by omega) (by omega)
  rw [Int.toNat_natCast] at this
  exact this
theorem er_lenON {i : Nat} {l : Addr} {M : List Nat} (hi : r[i]? = some (some (.own l (M.map natD)))) : EvX K C m (tCB (rLenK K) (tCons (tVar i) tNil)) r (fun z => z = .d (natD M.length)) :=
  (er_lenO hi).is (by rw [List.length_map])
/-- all pairs of rows, all ways -/
theorem ds_pairs {l l3 : Addr} {M : List Nat} {es : List Ent} {n : Nat} {x2 x4 x5 x6 x7 x8 x9 x10 x11 : Option Sh} {O : Out} (hM : M.length = n) (hl : RowsOk n es) (he : es.length ≤ 100)
    (k : ∀ (ps : List (Nat × Nat)) x4 x5 x6 x7 x8, (∀ p ∈ ps, ∃ w, ∃ e ∈ es, ∃ e' ∈ es, BadP M w e e' ∧ p = (mk M (pl w e).2.2, mk M (pl w e').2.2)) → (ps = [] → ∀ w, ∀ e ∈ es, ∀ e' ∈ es, ¬ BadP M w e e') → DS K C m tz (cRho l M es x2 (some (.own l3 (ps.map duoD))) x4 x5 x6 x7 x8 x9 x10 x11) O) :
    DS K C m (tSeq (tFor (iList K (tVar 1)) (gName 4) (tFor (iList K (tVar 1)) (gName 5) (tFor (iList K (tLst (tCons (tTup (tCons (tC (.int 0)) (tCons (tC (.int 1)) (tCons (tC (.int 2)) tNil)))) (tCons (tTup (tCons (tC (.int 0)) (tCons (tC (.int 2)) (tCons (tC (.int 1)) tNil)))) (tCons (tTup (tCons (tC (.int 1)) (tCons (tC (.int 2)) (tCons (tC (.int 0)) tNil)))) tNil))))) (gTup K 3 (gCons (gName 6) (gCons (gName 7) (gCons (gName 8) gNil)))) (tIfS (tAnd (tTest (tOp (rEqD K) (tOp (rIx K) (tVar 0) (tOp (rIx K) (tVar 4) (tVar 6))) (tOp (rIx K) (tVar 0) (tOp (rIx K) (tVar 5) (tVar 6))))) (tTest (tOp (rEqD K) (tOp (rIx K) (tVar 0) (tOp (rIx K) (tVar 4) (tVar 7))) (tOp (rIx K) (tVar 0) (tOp (rIx K) (tVar 5) (tVar 7)))))) (tIfS (tTest (tOp (rI0 fun i j => .bl (decide (i < j))) (tOp (rIx K) (tVar 0) (tOp (rIx K) (tVar 4) (tVar 8))) (tOp (rIx K) (tVar 0) (tOp (rIx K) (tVar 5) (tVar 8))))) (tDrop (tBM K "list" rAppend (tVar 3) (tCons (tTup (tCons (tOp (rIx K) (tVar 0) (tOp (rIx K) (tVar 4) (tVar 8))) (tCons (tOp (rIx K) (tVar 0) (tOp (rIx K) (tVar 5) (tVar 8))) tNil))) tNil))) tNext) tNext)))) tz) (cRho l M es x2 (some (.own l3 [])) x4 x5 x6 x7 x8 x9 x10 x11) O := by
  refine ds_for (ds := es.map rowD) (it_list (er_var rfl rfl)) (fun i r => ∃ ps x4 x5 x6 x7 x8, r = cRho l M es x2 (some (.own l3 (ps.map duoD))) x4 x5 x6 x7 x8 x9 x10 x11 ∧ PrOk M es ps (fun a b c => a < i) ∧ ps.length ≤ 300 * i) ⟨[], x4, x5, x6, x7, x8, rfl, ⟨(fun _ h => by cases h), fun _ a b c h => absurd h (Nat.not_lt_zero _)⟩, Nat.zero_le _⟩ (fun i d r' hd ⟨ps, x4, x5, x6, x7, x8, er, hp, hz⟩ => ?_) fun r' ⟨ps, x4, x5, x6, x7, x8, er, hp, hz⟩ => ?_
  · subst er
    obtain ⟨hi, rfl⟩ := rows_at hd
    refine ⟨_, _, gt_nameD, ds_last ?_⟩
    refine ds_for (ds := es.map rowD) (it_list (er_var rfl rfl)) (fun j r => ∃ ps x5 x6 x7 x8, r = cRho l M es x2 (some (.own l3 (ps.map duoD))) (some (.d (rowD es[i]))) x5 x6 x7 x8 x9 x10 x11 ∧ PrOk M es ps (fun a b c => a < i ∨ (a = i ∧ b < j)) ∧ ps.length ≤ 300 * i + 3 * j) ⟨ps, x5, x6, x7, x8, rfl, ⟨hp.ok, fun hn a b c h => hp.all hn a b c (h.resolve_right fun z => Nat.not_lt_zero _ z.2)⟩, hz⟩ (fun j d r' hd ⟨ps, x5, x6, x7, x8, er, hp, hz⟩ => ?_) fun r' ⟨ps, x5, x6, x7, x8, er, hp, hz⟩ => ?_
    · subst er
      obtain ⟨hj, rfl⟩ := rows_at hd
      refine ⟨_, _, gt_nameD, ds_last ?_⟩
      refine ds_for (ds := [placesD .wi, placesD .be, placesD .ah]) (it_list er_trips) (fun k r => ∃ ps x6 x7 x8, r = cRho l M es x2 (some (.own l3 (ps.map duoD))) (some (.d (rowD es[i]))) (some (.d (rowD es[j]))) x6 x7 x8 x9 x10 x11 ∧ PrOk M es ps (fun a b c => a < i ∨ (a = i ∧ (b < j ∨ (b = j ∧ c < k)))) ∧ ps.length ≤ 300 * i + 3 * j + k) ⟨ps, x6, x7, x8, rfl, ⟨hp.ok, fun hn a b c h => hp.all hn a b c (h.imp id fun z => ⟨z.1, z.2.resolve_right fun y => Nat.not_lt_zero _ y.2⟩)⟩, hz⟩ (fun k d r' hd ⟨ps, x6, x7, x8, er, hp, hz⟩ => ?_) fun r' ⟨ps, x6, x7, x8, er, hp, hz⟩ => ?_
      · subst er
        obtain ⟨rfl, hk⟩ := trip_at hd
        refine ⟨_, _, gt_places, ds_pair (n := n) hM (hl _ (List.getElem_mem hi)) (hl _ (List.getElem_mem hj)) (by omega) (fun hb => ?_) fun hb => ?_⟩
        · refine ⟨_, _, _, _, rfl, ⟨fun p hpm => ?_, fun hn => ?_⟩, ?_⟩
          · rcases List.mem_append.mp hpm with c | c
            · exact hp.ok p c
            · rw [List.mem_singleton.mp c]
              exact ⟨trip k, es[i], List.getElem_mem hi, es[j], List.getElem_mem hj, hb, rfl⟩
          · exact absurd hn (by simp)
          · rw [List.length_append]
            show ps.length + 1 ≤ _
            omega
        · refine ⟨ps, _, _, _, rfl, ⟨hp.ok, fun hn a b c h e e' g1 g2 => ?_⟩, by omega⟩
          by_cases z : a = i ∧ b = j ∧ c = k
          · obtain ⟨rfl, rfl, rfl⟩ := z
            rw [List.getElem?_eq_getElem hi] at g1
            rw [List.getElem?_eq_getElem hj] at g2
            cases g1
            cases g2
            exact hb
          · refine hp.all hn a b c ?_ e e' g1 g2
            rcases h with h | ⟨h1, h | ⟨h2, h3⟩⟩
            · exact .inl h
            · exact .inr ⟨h1, .inl h⟩
            · exact .inr ⟨h1, .inr ⟨h2, by
                by_cases q : c = k
                · exact absurd ⟨h1, h2, q⟩ z
                · omega⟩⟩
      · subst er
        refine ds_next ⟨ps, _, _, _, _, rfl, ⟨hp.ok, fun hn a b c h e e' g1 g2 => ?_⟩, by have : [placesD .wi, placesD .be, placesD .ah].length = 3 := rfl; omega⟩
        have hc : trip c = trip (min c 2) := by
          match c with
          | 0 => rfl
          | 1 => rfl
          | c + 2 =>
            have : min (c + 2) 2 = 2 := by omega
            rw [this] <;> rfl
        rw [hc]
        refine hp.all hn a b (min c 2) ?_ e e' g1 g2
        rcases h with h | ⟨h1, h⟩
        · exact .inl h
        · by_cases q : b < j
          · exact .inr ⟨h1, .inl q⟩
          · exact .inr ⟨h1, .inr ⟨by omega, show min c 2 < 3 by omega⟩⟩
    · subst er
      refine ds_next ⟨ps, _, _, _, _, _, rfl, ⟨hp.ok, fun hn a b c h e e' g1 g2 => ?_⟩, by rw [List.length_map] at hz; omega⟩
      refine hp.all hn a b c ?_ e e' g1 g2
      by_cases q : a < i
      · exact .inl q
      · exact .inr ⟨by omega, by rw [List.length_map]; exact (List.getElem?_eq_some_iff.mp g2).1⟩
  · subst er
    refine k ps x4 x5 x6 x7 x8 hp.ok fun hn v e he e' he' => ?_
    obtain ⟨a, ha⟩ := List.mem_iff_getElem?.mp he
    obtain ⟨b, hb⟩ := List.mem_iff_getElem?.mp he'
    have al : a < (es.map rowD).length := by rw [List.length_map]; exact (List.getElem?_eq_some_iff.mp ha).1
    cases v
    · exact hp.all hn a b 0 al e e' ha hb
    · exact hp.all hn a b 1 al e e' ha hb
    · exact hp.all hn a b 2 al e e' ha hb
theorem mrg_same {lo hi v : Nat} (h : v ≠ hi) : mrg lo hi v = v := if_neg h
theorem cl_LClose (T : Bl K w mg C aW aP) (d : Df K mg "_law_close" sLClose ["_law_marks_here", "_law_rows_here"]) : Cl P w K mg base 1 "_law_close" (PLClose K C) := by
  obtain ⟨f, fd, F, hm, b⟩ := d.ex
  refine ⟨f, fd, _, F.ok scLClose (fun vs H Q E h => ?_) (fun cdv A outer s H vs Q E hr h => ?_), hm, F.kp, b⟩
  · obtain ⟨_, S, l, v, n, es, rfl, _⟩ := h
    rfl
  · obtain ⟨_, S, l, v, n, es, rfl, hs, hSl, hHl, hv, hro, h1, h8, he, q⟩ := h
    refine ⟨_, dvLClose T hr, ?_⟩
    obtain ⟨H0, eH0⟩ : ∃ H0 : Hp, H0 = fun a => if a = l then none else H a := ⟨_, rfl⟩
    have z0 : H0 l = none := by rw [eH0]; exact if_pos rfl
    have zn : ∀ a, a ≠ l → H0 a = H a := fun a ha => by rw [eH0]; exact if_neg ha
    have zs : ∀ a o, H0 a = some o → H a = some o := fun a o e => by
      by_cases x : a = l
      · rw [x, z0] at e; cases e
      · rw [← zn a x]; exact e
    have st : StAt K C none S H0 (cRho l (List.range n) es none none none none none none none none none none) (L2.start NLClose [.ref l, v]) S H := by
      refine ⟨⟨Same.refl S, hs, fun a o _ e => zs a o e, fun _ _ => rfl, fun a e => ?_, fun b e => nomatch e⟩, rfl, fun i s e => ?_, fun l' hl' => ?_, ?_, fun b e => (nomatch e), fun i b e => ?_⟩
      · cases x : H0 a with
        | none => exact absurd x e
        | some o => rw [zs a o x]; exact fun y => nomatch y
      · match i, e with
        | 0, e =>
          cases e
          exact ⟨.ref l, rfl, rfl, hSl, _, hHl, dpa_nV _⟩
        | 1, e =>
          cases e
          exact ⟨v, rfl, hv⟩
        | 2, e | 3, e | 4, e | 5, e | 6, e | 7, e | 8, e | 9, e | 10, e | 11, e => cases e
        | i + 12, e => exact absurd e (by simp)
      · have : l' = l := by simpa [owns, ownOf] using hl'
        rw [this]
        exact z0
      · show [l].Nodup
        exact List.nodup_cons.mpr ⟨List.not_mem_nil, List.nodup_nil⟩
      · match i, e with
        | 0, e | 1, e | 2, e | 3, e | 4, e | 5, e | 6, e | 7, e | 8, e | 9, e | 10, e | 11, e => cases e
        | i + 12, e => exact absurd e (by simp)
    have main : DS K C none (tSeq (tFor (iRng1 (tCons (tCB (rLenK K) (tCons (tVar 0) tNil)) tNil)) (gName 2) (tSeq (tAsg (tLst tNil) (gName 3))
    (tSeq (tFor (iList K (tVar 1)) (gName 4) (tFor (iList K (tVar 1)) (gName 5) (tFor (iList K (tLst (tCons (tTup (tCons (tC (.int 0)) (tCons (tC (.int 1)) (tCons (tC (.int 2)) tNil)))) (tCons (tTup (tCons (tC (.int 0)) (tCons (tC (.int 2)) (tCons (tC (.int 1)) tNil)))) (tCons (tTup (tCons (tC (.int 1)) (tCons (tC (.int 2)) (tCons (tC (.int 0)) tNil)))) tNil))))) (gTup K 3 (gCons (gName 6) (gCons (gName 7) (gCons (gName 8) gNil)))) (tIfS (tAnd (tTest (tOp (rEqD K) (tOp (rIx K) (tVar 0) (tOp (rIx K) (tVar 4) (tVar 6))) (tOp (rIx K) (tVar 0) (tOp (rIx K) (tVar 5) (tVar 6))))) (tTest (tOp (rEqD K) (tOp (rIx K) (tVar 0) (tOp (rIx K) (tVar 4) (tVar 7))) (tOp (rIx K) (tVar 0) (tOp (rIx K) (tVar 5) (tVar 7)))))) (tIfS (tTest (tOp (rI0 fun i j => .bl (decide (i < j))) (tOp (rIx K) (tVar 0) (tOp (rIx K) (tVar 4) (tVar 8))) (tOp (rIx K) (tVar 0) (tOp (rIx K) (tVar 5) (tVar 8))))) (tDrop (tBM K "list" rAppend (tVar 3) (tCons (tTup (tCons (tOp (rIx K) (tVar 0) (tOp (rIx K) (tVar 4) (tVar 8))) (tCons (tOp (rIx K) (tVar 0) (tOp (rIx K) (tVar 5) (tVar 8))) tNil))) tNil))) tNext) tNext))))
    (tSeq (tIfS (tTest (tOp (rEqD K) (tVar 3) (tLst tNil))) tBreak tNext)
    (tSeq (tAsg (tOp (rIx K) (tVar 3) (tC (.int 0))) (gTup K 2 (gCons (gName 9) (gCons (gName 10) gNil))))
    (tFor (iRng1 (tCons (tCB (rLenK K) (tCons (tVar 0) tNil)) tNil)) (gName 11) (tIfS (tTest (tOp (rEqD K) (tOp (rIx K) (tVar 0) (tVar 11)) (tVar 10))) (tAsg (tVar 9) (gSub (tVar 0) (tVar 11) rSetL)) tNext))))))) tNext)
      (cRho l (List.range n) es none none none none none none none none none none) { nx := fun r => ∃ M x2 x3 x4 x5 x6 x7 x8 x9 x10 x11, r = cRho l M es x2 x3 x4 x5 x6 x7 x8 x9 x10 x11 ∧ IsMk n es M } := by
      have hl0 : (List.range n).length = n := List.length_range
      refine ds_for (ds := rangeD 0 n) (it_rangeN ((er_lenON rfl).is (by rw [hl0])) (by omega)) (fun i r => ∃ M x2 x3 x4 x5 x6 x7 x8 x9 x10 x11, r = cRho l M es x2 x3 x4 x5 x6 x7 x8 x9 x10 x11 ∧ LS n es M ∧ cntM M + i ≤ n) ⟨_, _, _, _, _, _, _, _, _, _, _, rfl, ls_start n es, by have := cntM_start (n := n); omega⟩ (fun i d r' hd ⟨M, x2, x3, x4, x5, x6, x7, x8, x9, x10, x11, er, ls, hc⟩ => ?_) fun r' ⟨M, x2, x3, x4, x5, x6, x7, x8, x9, x10, x11, er, ls, hc⟩ => ?_
      · subst er
        obtain ⟨rfl, hi⟩ := range_at hd
        refine ⟨_, _, gt_nameD, ds_setOwn (eo_lst1 (xs := []) ea_nil (by decide)) fun l3 xs e3 => ?_⟩
        subst e3
        refine ds_pairs (n := n) ls.len hro he fun ps x4 x5 x6 x7 x8 hok hall => ?_
        refine ds_freeze (i := 3) rfl ?_
        refine ds_if (et_is (et_val (er_op (er_varL rfl) er_lst0 (rx_eqD (shaped_duos ps) shaped_nil))) (duos_nil ps)) (fun e => ds_out (ds_break ?_)) fun e => ds_skip ?_
        · exact ds_next ⟨M, _, _, _, _, _, _, _, _, _, _, rfl, ls_end ls (hall (of_decide_eq_true e))⟩
        · have hne := of_decide_eq_false e
          obtain ⟨p, ps', rfl⟩ := List.exists_cons_of_ne_nil hne
          obtain ⟨v, e1, he1, e2, he2, hb, rfl⟩ := hok _ List.mem_cons_self
          obtain ⟨ls', hlt⟩ := ls_merge ls hro he1 he2 hb
          refine ds_asg (y := duoD (mk M (pl v e1).2.2, mk M (pl v e2).2.2)) (er_op (er_varL rfl) (er_int 0) (rx_ixL (at_head rfl))) (gt_tup (xs := [natD (mk M (pl v e1).2.2), natD (mk M (pl v e2).2.2)]) (gts_cons (x := .d (natD (mk M (pl v e1).2.2))) (xs := [.d (natD (mk M (pl v e2).2.2))]) gt_nameD (gts_cons (x := .d (natD (mk M (pl v e2).2.2))) (xs := []) gt_nameD gts_nil))) (ds_last ?_)
          obtain ⟨lo, elo⟩ : ∃ lo, lo = mk M (pl v e1).2.2 := ⟨_, rfl⟩
          obtain ⟨hi', ehi⟩ : ∃ hi, hi = mk M (pl v e2).2.2 := ⟨_, rfl⟩
          rw [← elo, ← ehi] at ls' hlt ⊢
          refine ds_for (ds := rangeD 0 n) (it_rangeN ((er_lenON rfl).is (by rw [ls.len])) (by omega)) (fun j r => ∃ x11, r = cRho l (upto (mrg lo hi') M j) es (some (.d (natD i))) (some (.tl (((lo, hi') :: ps').map duoD))) x4 x5 x6 x7 x8 (some (.d (natD lo))) (some (.d (natD hi'))) x11) ⟨x11, by rw [upto_0, elo, ehi]; rfl⟩ (fun j d r' hd ⟨y11, er⟩ => ?_) fun r' ⟨y11, er⟩ => ?_
          · subst er
            obtain ⟨rfl, hj⟩ := range_at hd
            have hj' : j < M.length := by rw [ls.len]; exact hj
            have hjl : j < (upto (mrg lo hi') M j).length := by rw [upto_len]; exact hj'
            refine ⟨_, _, gt_nameD, ds_if1 (et_eqN (er_markO (i := 0) rfl hjl (er_var rfl rfl)) (er_var rfl rfl)) (fun e => ?_) fun e => ?_⟩
            · have e := of_decide_eq_true e
              rw [upto_at hj'] at e
              refine ds_setItem (i := 0) (j := j) rfl (er_var rfl rfl) (er_var rfl rfl) (by rw [List.length_map]; exact hjl) ⟨some (.d (natD j)), ?_⟩
              have em : mrg lo hi' hi' = lo := if_pos rfl
              rw [upto_succ hj', e, em]
              unfold cRho
              rw [List.map_set] <;> rfl
            · have e := of_decide_eq_false e
              rw [upto_at hj'] at e
              refine ds_next ⟨some (.d (natD j)), ?_⟩
              rw [upto_same hj' (mrg_same e)] <;> rfl
          · subst er
            have eu : upto (mrg lo hi') M (rangeD 0 n).length = M.map (mrg lo hi') := by rw [range_len, ← ls.len, upto_all]
            rw [eu]
            exact ds_next ⟨M.map (mrg lo hi'), _, _, _, _, _, _, _, _, _, _, rfl, ls', by omega⟩
      · subst er
        have := cntM_pos ls h1
        rw [range_len] at hc
        omega
    refine main S H0 _ S H { ({ nx := fun _ H' => Q .non H', rt := Q } : Ends) with nx := tRet (tVar 0) { nx := fun _ H' => Q .non H', rt := Q } } st (fun r' σ' S' H' ⟨M, x2, x3, x4, x5, x6, x7, x8, x9, x10, x11, er, hmk⟩ st' => ?_) (fun _ _ _ _ x => x.elim) (fun _ _ _ _ x => x.elim) fun _ _ _ _ x => x.elim
    subst er
    obtain ⟨u, g1, g2, g3, ws, g4, g5⟩ := st'.sl 0 (.own l (M.map natD)) rfl
    subst g2
    have ew := nV_of g5
    subst ew
    refine ⟨.ref l, g1, q S' H' M ⟨st'.stp.ss, st'.stp.sh, fun a o hna ha => st'.stp.hh a o (fun x => nomatch x) (by rw [zn a hna]; exact ha), fun a ha => ?_, fun a ha => ?_⟩ g3 g4 hmk⟩
    · by_cases x : a = l
      · rw [x, g3, hSl]
      · exact st'.stp.old a (by rw [zn a x]; exact ha)
    · by_cases x : a = l
      · rw [x, g4]
        exact fun y => nomatch y
      · exact st'.stp.dom a (by rw [zn a x]; exact ha)
end
end RD

end
section
set_option linter.all false
set_option maxRecDepth 100000
set_option maxHeartbeats 4000000
/-! N5: the law's marks, lots, clash. -/
namespace RD
open PySem PySem.Spec PyProof.Rows L2
section
variable {P : Program} {w : World} {K : PySem.W.Frag} {mg : Str → Option Value} {base : Heap} {C aW aP : Addr} {m : Option Addr} {r : Rho} {ta tb te : TE} {tu : TS} {O : Out} {wi : TI} {g : TG} {t : TT} {tz : TS}
theorem rgV_nat (n : Nat) : rgV 0 n = (List.range n).map nV := by
  unfold rgV
  have : ((n : Int) - 0).toNat = n := by omega
  rw [this]
  exact List.map_congr_left fun i _ => by
    show V.int (0 + (i : Int)) = V.int (i : Int)
    rw [Int.zero_add]
/-- list(range(n)) -/
theorem eo_lstRg {n : Nat} (h : EvX K C m te r (fun z => z = .d (natD n))) (hn : n ≤ 100000) : EvO K C m (tLstRg (tRg1 te)) r (fun z => z = (List.range n).map natD) := fun S0 H0 σ S H st Q q => by
  show te σ H _
  refine h S0 H0 σ S H st _ fun v s S1 H1 e st1 hv => ?_
  subst e
  have hv' : Dp K S1 v (natD n) := hv
  cases hv'
  refine ⟨n, rfl, RgOk.of_le (by decide) (by omega) (by decide) (by omega), fun p hp => ?_⟩
  rw [rgV_nat]
  exact q p _ _ S1 _ rfl (none_of st1 hp) (st1.trans (Stp.lay st1.sh hp)) (none_S st1.sh hp) upd_same (dpa_nV _)
/-- an evaluation leaves another's new list alone -/
theorem er_close {t1 t2 : TE} {n : Nat} {es : List Ent} {E : XK} (h1 : EvO K C m t1 r (fun z => z = (List.range n).map natD)) (h2 : EvX K C m t2 r (fun z => z = .d (listR es))) (hro : RowsOk n es) (n1 : 1 ≤ n) (n8 : n ≤ 8) (he : es.length ≤ 100) :
    EvX K C m (tCall (PLClose K C) [] E (tCons t1 (tCons t2 tNil))) r (fun z => ∃ M, z = .tl (M.map natD) ∧ IsMk n es M) := fun S0 H0 σ S H st Q q => by
  show t1 σ H _
  refine h1 S0 H0 σ S H st _ fun l vs xs S1 H1 e hl st1 hS1 hH1 hd1 => ?_
  subst e
  have ev := nV_of hd1
  subst ev
  obtain ⟨_, _, hml, _⟩ := st.new hl
  refine h2 S0 H0 σ S1 H1 (st.step st1) _ fun v s S2 H2 e2 st2 hv => ?_
  subst e2
  have hH2 : H2 l = some (.lst ((List.range n).map nV)) := st2.hh l _ hml hH1
  have hS2 : S2 l = none := (st2.old l (by rw [hH1]; exact fun z => nomatch z)).trans hS1
  refine ⟨rfl, S2, l, v, n, es, rfl, st2.sh, hS2, hH2, hv, hro, n1, n8, he, fun S3 H3 M sd hS3 hH3 hmk => ?_⟩
  have t12 := st1.trans st2
  have sm : Same S3 (upd S3 l (.lst (M.map nV))) := fun a o e => by
    rw [upd_ne (ne_of_none e hS3)]
    exact e
  refine q (.ref l) (.tl (M.map natD)) (upd S3 l (.lst (M.map nV))) H3 ⟨M, rfl, hmk⟩ ⟨(t12.ss.trans sd.ss).trans sm, fun a o e => ?_, fun a o hma e => ?_, fun a e => ?_, fun a e => sd.dom a (t12.dom a e), fun b hb e => ?_⟩ ⟨l, _, rfl, upd_same, dpa_nV _⟩
  · by_cases x : a = l
    · rw [x, upd_same] at e
      cases e
      rw [x]
      exact hH3
    · rw [upd_ne x] at e
      exact sd.sh a o e
  · exact sd.hh a o (fun x : a = l => by rw [x, hl] at e; cases e) (t12.hh a o hma e)
  · have x : a ≠ l := fun x => e (by rw [x]; exact hl)
    rw [upd_ne x]
    exact (sd.old a (t12.dom a e)).trans (t12.old a e)
  · obtain ⟨g, s, n', e1, e2⟩ := t12.bag b hb e
    exact ⟨g, s, n', sd.hh b _ (fun x : b = l => hml (by rw [hb, x])) e1, e2⟩
theorem pick_ok {fc : Fc} (ho : FcOk fc) {l : List Nat} : RowsOk fc.n (pickE fc l) := fun e he => by
  unfold pickE at he
  obtain ⟨i, _, hi⟩ := List.mem_filterMap.mp he
  exact ho.es e (List.mem_of_getElem? hi)
theorem pick_len (fc : Fc) (l : List Nat) : (pickE fc l).length ≤ l.length := List.length_filterMap_le _ _
def entAt (fc : Fc) : PyData → PyData
  | .int i => rowD (fc.es.getD i.toNat (0, 0, 0))
  | d => d
theorem pick_map {fc : Fc} : ∀ {l : List Nat}, (∀ i ∈ l, i < fc.es.length) → (l.map natD).map (entAt fc) = (pickE fc l).map rowD
  | [], _ => rfl
  | i :: l, h => by
    have hi := h i List.mem_cons_self
    have ih := pick_map (fc := fc) (l := l) fun j hj => h j (List.mem_cons_of_mem _ hj)
    unfold pickE at ih ⊢
    rw [List.filterMap_cons, List.getElem?_eq_getElem hi, List.map_cons, List.map_cons, List.map_cons, ih]
    congr 1
    show rowD (fc.es.getD (i : Int).toNat (0, 0, 0)) = _
    rw [Int.toNat_natCast, List.getD_eq_getElem?_getD, List.getElem?_eq_getElem hi] <;> rfl
/-- the chosen rows -/
theorem er_chosen {fc : Fc} {nums : List Nat} {x1 : Option Sh} (hw : ItX K C m wi [some (.d fc.d), x1, none] (nums.map natD)) (hi : ∀ i ∈ nums, i < fc.es.length) (hl : nums.length ≤ 100) :
    EvX K C m (tLc wi (gName 2) tYes (tOp (rIx K) (tOp (rIx K) (tVar 0) (tC (.int 1))) (tVar 2)) [2]) [some (.d fc.d), x1, none] (fun z => z = .d (listR (pickE fc nums))) := by
  refine (er_ownD (eo_lcM (entAt fc) hw (by rw [List.length_map]; omega) fun i d hd => ?_)).is (by rw [pick_map hi] <;> rfl)
  rw [List.getElem?_map] at hd
  cases hg : nums[i]? with
  | none =>
    rw [hg] at hd
    cases hd
  | some j =>
    rw [hg] at hd
    cases hd
    have hj := hi j (List.mem_of_getElem? hg)
    refine ⟨_, _, gt_nameD, fun _ h => h, er_op (er_op (er_var rfl rfl) (er_int 1) (rx_ixT fc_1)) (er_var rfl rfl) (rx_ixT (i := (j : Int)) ?_)⟩
    rw [atI_nat (by rw [List.length_map]; exact hj), List.getElem?_map]
    show fc.es[j]?.map rowD = some (rowD (fc.es.getD (j : Int).toNat (0, 0, 0)))
    rw [Int.toNat_natCast, List.getD_eq_getElem?_getD, List.getElem?_eq_getElem hj] <;> rfl
theorem cl_LMarks (T : Bl K w mg C aW aP) (cC : Cl P w K mg base 1 "_law_close" (PLClose K C)) (d : Df K mg "_law_marks" sLMarks ["_law_facts_here", "_law_numbers"]) : Cl P w K mg base 2 "_law_marks" (PLMarks K C) :=
  pd_cl d scLMarks (fun _ => rfl) (fun _ => rfl) fun f cdv A outer s H E a hr hp => ⟨_, dvLMarks T cC (by omega) hr, by
    obtain ⟨fc, nums⟩ := a
    obtain ⟨ho, hi, hl⟩ := hp
    have ho : FcOk fc := ho
    refine ds_ret (er_close (n := fc.n) (es := pickE fc nums) (eo_lstRg (er_op (er_var rfl rfl) (er_int 0) (rx_ixT fc_0)) (by have := ho.n8; omega)) (er_chosen (it_list (er_var rfl rfl)) hi hl) (pick_ok ho) ho.n1 ho.n8 (Nat.le_trans (pick_len fc nums) hl)) fun s e => e⟩
theorem cl_LMarksT (T : Bl K w mg C aW aP) (cC : Cl P w K mg base 1 "_law_close" (PLClose K C)) (d : Df K mg "_law_marks" sLMarksT ["_law_facts_here", "_law_numbers"]) : Cl P w K mg base 2 "_law_marks" (PLMarksT K C) :=
  pd_cl d scLMarksT (fun _ => rfl) (fun _ => rfl) fun f cdv A outer s H E a hr hp => ⟨_, dvLMarksT T cC (by omega) hr, by
    obtain ⟨fc, nums⟩ := a
    obtain ⟨ho, hi, hl⟩ := hp
    have ho : FcOk fc := ho
    refine ds_ret (er_close (n := fc.n) (es := pickE fc nums) (eo_lstRg (er_op (er_var rfl rfl) (er_int 0) (rx_ixT fc_0)) (by have := ho.n8; omega)) (er_chosen (it_tup (er_var rfl rfl)) hi hl) (pick_ok ho) ho.n1 ho.n8 (Nat.le_trans (pick_len fc nums) hl)) fun s e => e⟩
theorem cl_LAllMarks (T : Bl K w mg C aW aP) (cM : Cl P w K mg base 2 "_law_marks" (PLMarks K C)) (d : Df K mg "_law_all_marks" sLAllMarks ["_law_facts_here"]) : Cl P w K mg base 3 "_law_all_marks" (PLAllMarks K C) :=
  pd_cl d scLAllMarks (fun _ => rfl) (fun _ => rfl) fun f cdv A outer s H E a hr hp => ⟨_, dvLAllMarks T cM (by omega) hr, by
    have ho : FcOk a := hp
    have hl := ho.el
    refine ds_ret (P := fun z => ∃ M, z = .tl (M.map natD) ∧ IsMk a.n a.es M) (er_call1 (a, List.range a.es.length) (ea_cons (er_var rfl rfl) (ea_cons (er_ownD (eo_lstRg ((er_cb (ea_cons (er_op (er_var rfl rfl) (er_int 1) (rx_ixT fc_1)) ea_nil) rxa_lenT).is (by rw [List.length_map])) (by omega))) ea_nil)) ⟨ho, fun i hi => List.mem_range.mp hi, by show (List.range a.es.length).length ≤ 100; rw [List.length_range]; omega⟩ fun s ⟨M, e, h⟩ => ⟨M, e, ?_⟩) fun s e => e
    rw [pick_all] at h
    exact h⟩
/-! ways over data that are not known -/
def ItE (K : PySem.W.Frag) (C : Addr) (m : Option Addr) (wi : TI) (r : Rho) (Pd : List PyData → Prop) : Prop := ∀ (S0 H0 : Hp) (σ : L2.St) (S H : Hp), StAt K C m S0 H0 r σ S H →
  ∀ R : It → Hp → Prop, (∀ J S1 H1 ds, Pd ds → Stp m S H S1 H1 → Walks K J S1 ds → R J H1) → wi σ H R
theorem ite_list {Pd : List PyData → Prop} (h : EvX K C m te r (fun z => ∃ xs, z = .tl xs ∧ Pd xs)) : ItE K C m (iList K te) r Pd := fun S0 H0 σ S H st R q =>
  h S0 H0 σ S H st _ fun v s S1 H1 e st1 hv => by
    obtain ⟨xs, rfl, hp⟩ := e
    have hv' : Dp K S1 v (.list xs) := tl_dp hv
    cases hv' with
    | @lst a vs _ hq ha =>
      have ln := dpa_len ha
      refine ⟨a, rfl, ⟨vs, st1.sh.seq hq⟩, q _ S1 H1 xs hp st1 ⟨fun i S' H' e1 e2 hi => ?_, fun S' H' e1 e2 => ⟨vs, e2.seq (e1.seq hq), by rw [ln]; exact Nat.le_refl _⟩, fun i d S' H' hd e1 e2 x H'' hy => ?_⟩⟩
      · exact ⟨vs, vs[i]'(by rw [ln]; exact hi), e2.seq (e1.seq hq), List.getElem?_eq_getElem _⟩
      · obtain ⟨rfl, hx⟩ := hy
        obtain ⟨w, hw, hwd⟩ := dpa_get ha hd
        have ex : some w = some x := hw.symm.trans (hx vs (e2.seq (e1.seq hq)))
        cases ex
        exact ⟨S', Stp.refl e2, dp_mono e1 hwd⟩
theorem ds_forE {Pd : List PyData → Prop} (h : ItE K C m wi r Pd) (Pv : List PyData → Nat → Rho → Prop) (h0 : ∀ ds, Pd ds → Pv ds 0 r)
    (hs : ∀ ds, Pd ds → ∀ (i : Nat) d r', ds[i]? = some d → Pv ds i r' → ∃ r2 js, GT K C m g (.d d) r' r2 js ∧ DS K C m tu r2 { O with nx := Pv ds (i + 1), ct := Pv ds (i + 1), bk := fun r3 => DS K C m tz r3 O }) (hd : ∀ ds, Pd ds → ∀ r', Pv ds ds.length r' → DS K C m tz r' O) : DS K C m (tSeq (tFor wi g tu) tz) r O := fun S0 H0 σ S H D st k1 k2 k3 k4 => by
  refine h S0 H0 σ S H st _ fun J S1 H1 ds hp st1 hw => ?_
  have x1 := st.step st1
  refine ⟨fun i n σ' H' => n = ds.length - i ∧ i ≤ ds.length ∧ ∃ r' S', Pv ds i r' ∧ StAt K C m S1 H0 r' σ' S' H', ⟨_, rfl, Nat.zero_le _, r, S1, h0 ds hp, x1.rebase⟩, ?_⟩
  rintro i n σ' H' ⟨rfl, hi, r', S', hpv, y⟩
  by_cases hlt : i < ds.length
  · obtain ⟨r2, js, hg, hb⟩ := hs ds hp i ds[i] r' (List.getElem?_eq_getElem hlt) hpv
    refine .inr ⟨hw.1 i S' H' y.stp.ss y.stp.sh hlt, fun σ2 H2 => ∃ r3 S2, Pv ds (i + 1) r3 ∧ StAt K C m S1 H0 r3 σ2 S2 H2, fun σ2 H2 ⟨r3, S2, p3, y3⟩ => ⟨ds.length - (i + 1), by omega, rfl, hlt, r3, S2, p3, y3⟩, fun v H'' hy => ?_⟩
    obtain ⟨S'', sty, hdp⟩ := hw.2.2 i ds[i] S' H' (List.getElem?_eq_getElem hlt) y.stp.ss y.stp.sh v H'' hy
    refine hg S1 H0 σ' S'' H'' v (y.step sty.wide) hdp _ fun σ2 y2 _ => ?_
    refine hb S1 H0 σ2 S'' H'' _ y2 (fun r3 σ3 S3 H3 p3 y3 => ⟨r3, S3, p3, y3⟩) (fun v s S3 H3 p st3 hv => k2 v s S3 H3 p ?_ hv) (fun r3 σ3 S3 H3 p3 y3 => p3 S0 H0 σ3 S3 H3 D (x1.base y3) k1 k2 k3 k4) fun r3 σ3 S3 H3 p3 y3 => ⟨r3, S3, p3, y3⟩
    exact ⟨x1.stp.ss.trans st3.ss, st3.sh, st3.hh, fun a e => (st3.old a e).trans (x1.stp.old a e), st3.dom, st3.bag⟩
  · have e : i = ds.length := by omega
    subst e
    exact .inl ⟨hw.2.1 S' H' y.stp.ss y.stp.sh, hd ds hp r' hpv S0 H0 σ' S' H' D (x1.base y) k1 k2 k3 k4⟩
theorem eo_lcE {vs : List Nat} {Pd : List PyData → Prop} (A : List PyData → Nat → List PyData → Prop) (h : ItE K C m wi r Pd) (h0 : ∀ ds, Pd ds → A ds 0 []) (hz : ∀ ds, Pd ds → ∀ i acc, A ds i acc → acc.length < 100000)
    (hs : ∀ ds, Pd ds → ∀ (i : Nat) d acc, ds[i]? = some d → A ds i acc → ∃ r2 js, GT K C m g (.d d) (wipeR r vs) r2 js ∧ (∀ j ∈ js, j ∈ vs) ∧ EvT K C m t r2 (fun b => (b = true → EvX K C m te r2 (fun z => ∃ y, z = .d y ∧ A ds (i + 1) (acc ++ [y]))) ∧ (b = false → A ds (i + 1) acc))) :
    EvO K C m (tLc wi g t te vs) r (fun z => ∃ ds, Pd ds ∧ A ds ds.length z) := fun S0 H0 σ S H st Q q => by
  refine h S0 H0 σ S H st _ fun J S1 H1 ds hpd st1 hw D hD => ?_
  have x1 := (st.step st1)
  obtain ⟨n0, nS, nm, nr⟩ := x1.new hD
  have nrw : D ∉ owns (wipeR r vs) := by
    have : ∀ ws : List Nat, (owns (wipeR r ws)).Sublist (owns r) := by
      intro ws
      induction ws with
      | nil => exact List.Sublist.refl _
      | cons w ws ih => exact (owns_set_sub (x := none) rfl (wipeR r ws) w).trans ih
    exact fun z => nr ((this vs).subset z)
  refine ⟨fun i n H' => n = ds.length - i ∧ i ≤ ds.length ∧ ∃ S' ws acc, A ds i acc ∧ StAt K C m S1 H0 (wipeR r vs) (L2.wipe σ vs) S' H' ∧ S' D = none ∧ H' D = some (.lst ws) ∧ DpAll K S' ws acc ∧ Stp m S1 H1 S' H',
    ⟨_, rfl, Nat.zero_le _, S1, [], [], h0 ds hpd, (x1.wipe vs).rebase.step (Stp.lay x1.sh hD), nS, upd_same, .nil, Stp.lay x1.sh hD⟩, ?_⟩
  rintro i n H' ⟨rfl, hi, S', ws, acc, hA, y, e1, e2, e3, e4⟩
  by_cases hlt : i < ds.length
  · obtain ⟨r2, js, hg, hj, ht⟩ := hs ds hpd i ds[i] acc (List.getElem?_eq_getElem hlt) hA
    refine .inr ⟨hw.1 i S' H' y.stp.ss y.stp.sh hlt, fun H2 => ∃ S2 ws2 acc2, A ds (i + 1) acc2 ∧ StAt K C m S1 H0 (wipeR r vs) (L2.wipe σ vs) S2 H2 ∧ S2 D = none ∧ H2 D = some (.lst ws2) ∧ DpAll K S2 ws2 acc2 ∧ Stp m S1 H1 S2 H2, fun H2 p => ⟨ds.length - (i + 1), by omega, rfl, hlt, p⟩, fun v H'' hy => ?_⟩
    obtain ⟨S'', sty, hdp⟩ := hw.2.2 i ds[i] S' H' (List.getElem?_eq_getElem hlt) y.stp.ss y.stp.sh v H'' hy
    have y2 := y.step sty.wide
    have dn : H' D ≠ none := by rw [e2]; exact fun z => nomatch z
    refine hg S1 H0 _ S'' H'' v y2 hdp _ fun σ2 z2 hw2 => ⟨by rw [hw2 vs hj, wipe_wipe fun _ h => h], ?_⟩
    refine ht S1 H0 σ2 S'' H'' z2 _ fun b S3 H3 hb st3 => ?_
    have f3 : H3 D = some (.lst ws) := st3.hh D _ nm (sty.hh D _ (fun z => nomatch z) e2)
    have g3 : S3 D = none := (st3.old D (sty.dom D dn)).trans ((sty.old D dn).trans e1)
    cases b with
    | false => exact ⟨S3, ws, acc, hb.2 rfl, y2.step st3, g3, f3, dpa_mono st3.ss (dpa_mono sty.ss e3), e4.trans (sty.wide.trans st3)⟩
    | true =>
      show te σ2 H3 _
      refine hb.1 rfl S1 H0 σ2 S3 H3 (z2.step st3) _ fun w s S4 H4 hy st4 hv => ?_
      obtain ⟨yd, rfl, hA'⟩ := hy
      have f4 : H4 D = some (.lst ws) := st4.hh D _ nm f3
      have g4 : S4 D = none := (st4.old D (by rw [f3]; exact fun z => nomatch z)).trans g3
      have a4 := dpa_mono st4.ss (dpa_mono st3.ss (dpa_mono sty.ss e3))
      refine ⟨ws, f4, sz_lt (by rw [dpa_len a4]; exact hz ds hpd i acc hA), S4, ws ++ [w], acc ++ [yd], hA', ((y2.step st3).step st4).mut n0 g4 nm nrw, g4, upd_same, dpa_append a4 (.cons hv .nil), (e4.trans (sty.wide.trans (st3.trans st4))).mut hD g4 nm⟩
  · have e : i = ds.length := by omega
    subst e
    exact .inl ⟨hw.2.1 S' H' y.stp.ss y.stp.sh, q D ws acc S' H' ⟨ds, hpd, hA⟩ (none_of st1 hD) (st1.trans e4) e1 e2 e3⟩
end
end RD

end
section
set_option linter.all false
set_option maxRecDepth 100000
set_option maxHeartbeats 4000000
/-! N6: the law's lots, clash. -/
namespace RD
open PySem PySem.Spec PyProof.Rows L2
def appD (k : Nat) : PyData → PyData
  | .tuple ds => .tuple (ds ++ [natD k])
  | d => d
def lenD : PyData → PyData
  | .tuple ds => .tuple [.int ds.length, .tuple ds]
  | d => d
theorem app_lot (k : Nat) (l : List Nat) : appD k (lotD l) = lotD (l ++ [k]) := by
  show PyData.tuple (l.map natD ++ [natD k]) = PyData.tuple ((l ++ [k]).map natD)
  rw [List.map_append] <;> rfl
theorem len_lot (l : List Nat) : lenD (lotD l) = .tuple [natD l.length, lotD l] := by
  show PyData.tuple [.int (l.map natD).length, _] = _
  rw [List.length_map] <;> rfl
theorem alike_nats : ∀ (a b : List Nat), PySem.W.alikeAll (a.map natD) (b.map natD) = true
  | [], _ => by simp [PySem.W.alikeAll]
  | x :: a, [] => by simp [PySem.W.alikeAll]
  | x :: a, y :: b => by
    rw [List.map_cons, List.map_cons]
    simp only [PySem.W.alikeAll]
    rw [alike_nats a b]
    simp [natD, PySem.W.alike]
theorem alike_lots (L : List (List Nat)) : PySem.W.AllAlike ((L.map lotD).map lenD) := by
  intro d hd d' hd'
  rw [List.map_map] at hd hd'
  obtain ⟨a, _, rfl⟩ := List.mem_map.mp hd
  obtain ⟨b, _, rfl⟩ := List.mem_map.mp hd'
  show PySem.W.alike (lenD (lotD a)) (lenD (lotD b)) = true
  rw [len_lot, len_lot]
  have h := alike_nats a b
  simp only [lotD, natD, PySem.W.alike, PySem.W.alikeAll, Bool.and_true, Bool.true_and]
  exact h
theorem depth_nats : ∀ l : List Nat, PyData.depthAll (l.map natD) ≤ 0
  | [] => by simp only [List.map_nil, PyData.depthAll]; omega
  | x :: l => by
    have := depth_nats l
    simp only [List.map_cons, PyData.depthAll, natD, PyData.depth] at this ⊢
    omega
theorem lot_back {L : List (List Nat)} {z : List PyData} (h : z.Perm ((L.map lotD).map lenD)) : ∃ L' : List (List Nat), z = (L'.map lotD).map lenD ∧ L'.Perm L := by
  have e : (L.map lotD).map lenD = L.map fun l => lenD (lotD l) := by rw [List.map_map] <;> rfl
  rw [e] at h
  have hinj : ∀ a b : List Nat, lenD (lotD a) = lenD (lotD b) → a = b := fun a b q => by
    rw [len_lot, len_lot] at q
    simp only [PyData.tuple.injEq, List.cons.injEq, lotD, and_true] at q
    obtain ⟨_, q⟩ := q
    have : (a.map natD).map (fun d => match d with | PyData.int i => i.toNat | _ => 0) = (b.map natD).map (fun d => match d with | PyData.int i => i.toNat | _ => 0) := by rw [q]
    rw [List.map_map, List.map_map] at this
    have k : ∀ l : List Nat, l.map ((fun d => match d with | PyData.int i => i.toNat | _ => 0) ∘ natD) = l := fun l => by
      have : ((fun d => match d with | PyData.int i => i.toNat | _ => 0) ∘ natD) = id := funext fun n => Int.toNat_natCast n
      rw [this, List.map_id]
    rw [k, k] at this
    exact this
  have key : ∀ (z : List PyData), (∀ d ∈ z, d ∈ L.map fun l => lenD (lotD l)) → ∃ L' : List (List Nat), z = L'.map fun l => lenD (lotD l) := by
    intro z
    induction z with
    | nil => intro _; exact ⟨[], rfl⟩
    | cons d z ih =>
      intro hz
      obtain ⟨L', eL⟩ := ih fun x hx => hz x (List.mem_cons_of_mem _ hx)
      obtain ⟨l, _, el⟩ := List.mem_map.mp (hz d List.mem_cons_self)
      exact ⟨l :: L', by rw [List.map_cons, eL, el]⟩
  obtain ⟨L', eL⟩ := key z fun d hd => h.mem_iff.mp hd
  subst eL
  refine ⟨L', by rw [List.map_map] <;> rfl, ?_⟩
  have := h.map (fun d => match d with
    | PyData.tuple [_, PyData.tuple ds] => ds.map (fun d => match d with | PyData.int i => i.toNat | _ => 0)
    | _ => [])
  rw [List.map_map, List.map_map] at this
  have k : ∀ L : List (List Nat), L.map ((fun d => match d with
    | PyData.tuple [_, PyData.tuple ds] => ds.map (fun d => match d with | PyData.int i => i.toNat | _ => 0)
    | _ => []) ∘ fun l => lenD (lotD l)) = L := fun L => by
    have : ((fun d => match d with
      | PyData.tuple [_, PyData.tuple ds] => ds.map (fun d => match d with | PyData.int i => i.toNat | _ => 0)
      | _ => []) ∘ fun l : List Nat => lenD (lotD l)) = id := funext fun l => by
      show (l.map natD).map _ = l
      rw [List.map_map]
      have : ((fun d => match d with | PyData.int i => i.toNat | _ => 0) ∘ natD) = id := funext fun n => Int.toNat_natCast n
      rw [this, List.map_id]
    rw [this, List.map_id]
  rw [k, k] at this
  exact this
section
variable {P : Program} {w : World} {K : PySem.W.Frag} {mg : Str → Option Value} {base : Heap} {C aW aP : Addr} {m : Option Addr} {r : Rho} {ta tb te : TE} {tu : TS} {O : Out} {wi : TI} {g : TG} {t : TT} {tz : TS}
theorem lots_at {L : List (List Nat)} {i : Nat} {d : PyData} (h : (L.map lotD)[i]? = some d) : ∃ hi : i < L.length, d = lotD L[i] := by
  rw [List.getElem?_map] at h
  cases hg : L[i]? with
  | none =>
    rw [hg] at h
    cases h
  | some e =>
    rw [hg] at h
    cases h
    obtain ⟨h1, h2⟩ := List.getElem?_eq_some_iff.mp hg
    exact ⟨h1, by rw [h2]⟩
theorem cl_LLots (T : Bl K w mg C aW aP) (d : Df K mg "_law_lots" sLLots ["_law_many"]) : Cl P w K mg base 1 "_law_lots" (PLLots K C) :=
  pd_cl d scLLots (fun _ => rfl) (fun _ => rfl) fun f cdv A outer s H E a hr hp => ⟨_, dvLLots T hr, by
    have hp : a ≤ 10 := hp
    have e0 : EvX K C none (tLst (tCons (tTup tNil) tNil)) (rho0 NLLots [.d (natD a)]) (fun z => z = .tl ((subs 0).map lotD)) := er_own1 (eo_lst1 (xs := [.tuple []]) (ea_cons (er_tup (xs := []) ea_nil (by decide)) ea_nil) (by decide))
    refine ds_setTl e0 ?_
    refine ds_for (ds := rangeD 0 a) (it_rangeN (er_var rfl rfl) (by omega)) (fun i r => ∃ x, r = [some (.d (natD a)), some (.tl ((subs i).map lotD)), x, none, none]) ⟨none, rfl⟩ (fun i d r' hd ⟨x, er⟩ => ?_) fun r' ⟨x, er⟩ => ?_
    · subst er
      obtain ⟨rfl, hi⟩ := range_at hd
      have hlen : (subs i).length ≤ 1024 := by
        rw [subs_len]
        exact Nat.pow_le_pow_right (by decide) (by omega : i ≤ 10)
      obtain ⟨o1, o2, o3⟩ := lots_ok i
      refine ⟨_, _, gt_nameD, ds_set1X (P := fun z => z = .tl ((subs (i + 1)).map lotD)) ?_ (fun s e => by rw [e]; exact ⟨rfl, fun _ z => nomatch z⟩) fun s e => ⟨some (.d (natD i)), by rw [e] <;> rfl⟩⟩
      refine (er_own1 (eo_cat (ta := tVar 1) (xs := (subs i).map lotD) (ys := ((subs i).map (· ++ [i])).map lotD) (er_var rfl rfl) (er_own1 ((eo_lcM (appD i) (it_list (er_varL rfl)) (by rw [List.length_map]; omega) fun j d hd2 => ?_).imp fun z e => ?_)) (by rw [List.length_map, List.length_map, List.length_map]; omega))).is (by
        show Sh.tl (_ ++ _) = Sh.tl ((subs i ++ (subs i).map (· ++ [i])).map lotD)
        rw [List.map_append])
      · obtain ⟨hj, rfl⟩ := lots_at hd2
        refine ⟨_, _, gt_nameD, fun _ h => h, ?_⟩
        exact (er_catA1 (xs := ((subs i)[j]).map natD) (y := natD i) (er_var rfl rfl) (er_var rfl rfl) (by rw [List.length_map]; have := o2 _ (List.getElem_mem hj); omega)).is rfl
      · rw [e, List.map_map, List.map_map]
        exact List.map_congr_left fun l _ => app_lot i l
    · subst er
      rw [range_len]
      have hlen : (subs a).length ≤ 1024 := by
        rw [subs_len]
        exact Nat.pow_le_pow_right (by decide) hp
      have srt : EvO K C none (tCB (rSortedD K) (tCons (tLc (iList K (tVar 1)) (gName 4) tYes (tTup (tCons (tCB (rLenK K) (tCons (tVar 4) tNil)) (tCons (tVar 4) tNil))) [4]) tNil)) [some (.d (natD a)), some (.tl ((subs a).map lotD)), x, none, none] (fun z => z.Perm (((subs a).map lotD).map lenD)) := by
        refine eo_sorted (er_ownD (eo_lcM lenD (it_list (er_varL rfl)) (by rw [List.length_map]; omega) fun j d hd2 => ?_)) (fun d hd => ?_) (alike_lots _) fun d hd => ?_
        · obtain ⟨hj, rfl⟩ := lots_at hd2
          refine ⟨_, _, gt_nameD, fun _ h => h, ?_⟩
          exact (er_tup (xs := [.int (((subs a)[j]).map natD).length, lotD (subs a)[j]]) (ea_cons (er_cb (ea_cons (er_var rfl rfl) ea_nil) rxa_lenT) (ea_cons (er_var rfl rfl) ea_nil)) (show 2 ≤ 100000 by decide)).is rfl
        · rw [List.map_map] at hd
          obtain ⟨l, _, rfl⟩ := List.mem_map.mp hd
          exact ⟨_, _, len_lot l⟩
        · rw [List.map_map] at hd
          obtain ⟨l, _, rfl⟩ := List.mem_map.mp hd
          show (lenD (lotD l)).depth ≤ 60
          rw [len_lot]
          have := depth_nats l
          simp only [lotD, natD, PyData.depth, PyData.depthAll] at this ⊢
          omega
      refine ds_retO (eo_lcE (Pd := fun z => ∃ L : List (List Nat), z = (L.map lotD).map lenD ∧ L.Perm (subs a)) (fun ds i acc => ∀ L : List (List Nat), ds = (L.map lotD).map lenD → acc = (L.take i).map lotD ∧ i ≤ L.length) (ite_list ((er_own srt).imp fun s ⟨xs, e, q⟩ => ⟨xs, e, lot_back q⟩)) (fun ds _ L _ => ⟨rfl, Nat.zero_le _⟩) (fun ds ⟨L, e, hp'⟩ i acc hA => ?_) fun ds ⟨L, e, hp'⟩ i d acc hd hA => ?_) fun xs ⟨ds, ⟨L, e, hp'⟩, hA⟩ => ?_
      · obtain ⟨h1, h2⟩ := hA L e
        rw [h1, List.length_map, List.length_take, hp'.length_eq]
        omega
      · subst e
        rw [List.map_map, List.getElem?_map] at hd
        cases hg : L[i]? with
        | none =>
          rw [hg] at hd
          cases hd
        | some l =>
          rw [hg] at hd
          cases hd
          show ∃ r2 js, GT K C none _ (.d (lenD (lotD l))) _ r2 js ∧ _
          rw [len_lot]
          refine ⟨_, _, gt_tup (xs := [natD l.length, lotD l]) (gts_cons (x := .d (natD l.length)) (xs := [.d (lotD l)]) gt_nameD (gts_cons (x := .d (lotD l)) (xs := []) gt_nameD gts_nil)), fun _ h => h, fun S0 H0 σ S H st Q q => q true S H ⟨fun _ => (er_var rfl rfl : EvX K C none (tVar 4) _ (fun z => z = .d (lotD l))).imp fun z ez => ⟨lotD l, ez, fun L' eL => ?_⟩, fun z => nomatch z⟩ (Stp.refl st.sh)⟩
          obtain ⟨h1, h2⟩ := hA L' eL
          have hi := (List.getElem?_eq_some_iff.mp hg).1
          have hlen2 : L'.length = L.length := by
            have := congrArg List.length eL
            rw [List.length_map, List.length_map, List.length_map, List.length_map] at this
            exact this.symm
          have eL' : L'[i]? = some l := by
            have h3 := congrArg (fun z => z[i]?) eL
            simp only [List.getElem?_map, hg] at h3
            cases hg' : L'[i]? with
            | none =>
              rw [hg'] at h3
              cases h3
            | some l' =>
              rw [hg'] at h3
              have h4 : lenD (lotD l) = lenD (lotD l') := Option.some.inj h3
              rw [len_lot, len_lot] at h4
              have h5 : lotD l = lotD l' := by
                simp only [PyData.tuple.injEq, List.cons.injEq, and_true] at h4
                exact h4.2
              have h6 : l.map natD = l'.map natD := by
                simp only [lotD, PyData.tuple.injEq] at h5
                exact h5
              have h7 : l = l' := by
                have := congrArg (List.map fun d => match d with | PyData.int i => i.toNat | _ => 0) h6
                rw [List.map_map, List.map_map] at this
                have k : ((fun d => match d with | PyData.int i => i.toNat | _ => 0) ∘ natD) = id := funext fun n => Int.toNat_natCast n
                rw [k, List.map_id, List.map_id] at this
                exact this
              rw [h7]
          refine ⟨?_, by omega⟩
          rw [h1, List.take_add_one, eL', List.map_append] <;> rfl
      · subst e
        obtain ⟨h1, h2⟩ := hA L rfl
        obtain ⟨o1, o2, o3⟩ := lots_ok a
        rw [List.length_map, List.length_map, List.take_length] at h1
        exact ⟨L, by rw [h1], fun l hl => o1 l (hp'.mem_iff.mp hl), fun l hl => o2 l (hp'.mem_iff.mp hl), hp'.mem_iff.mpr o3⟩⟩
end
end RD

end
section
set_option linter.all false
set_option maxRecDepth 100000
set_option maxHeartbeats 4000000
/-! N7: the law's clash. -/
namespace RD
open PySem PySem.Spec PyProof.Rows L2
section
variable {P : Program} {w : World} {K : PySem.W.Frag} {mg : Str → Option Value} {base : Heap} {C aW aP : Addr} {m : Option Addr} {r : Rho} {ta tb te : TE} {tu : TS} {O : Out} {wi : TI} {g : TG} {t : TT} {tz : TS}
theorem rx_ixTl {ds : List PyData} {i : Int} {x : PyData} (e : atI ds i = some x) : RX K C (rIx K) (.tl ds) (.d (.int i)) (fun z => z = .d x) := fun S H v w hs h1 h2 Q q => rx_ixL e S H v w hs (tl_dp h1) h2 Q q
theorem er_rho {fc : Fc} {x : Nat} (ho : FcOk fc) (hx : x < fc.n) (h1 : EvX K C m ta r (fun z => z = .d fc.d)) (h2 : EvX K C m tb r (fun z => z = .d (natD x))) : EvX K C m (tOp (rIx K) (tCall (PLAllMarks K C) [] L2.E0 (tCons ta tNil)) tb) r (fun z => z = .d (natD (rho fc.es x))) :=
  er_opX (P1 := fun z => ∃ M, z = .tl (M.map natD) ∧ IsMk fc.n fc.es M) (er_call1 fc (ea_cons h1 ea_nil) ho fun s e => e) h2 (fun s ⟨M, e, _⟩ => by rw [e] <;> rfl) fun s1 s2 ⟨M, e, hM⟩ e2 => by
    subst e e2
    rw [rho_is hM.root]
    exact rx_ixTl (atI_natD (by rw [hM.len]; exact hx))
theorem duos_at {L : List (Nat × Nat)} {i : Nat} {d : PyData} (h : (L.map duoD)[i]? = some d) : ∃ hi : i < L.length, d = duoD L[i] := by
  rw [List.getElem?_map] at h
  cases hg : L[i]? with
  | none =>
    rw [hg] at h
    cases h
  | some e =>
    rw [hg] at h
    cases h
    obtain ⟨h1, h2⟩ := List.getElem?_eq_some_iff.mp hg
    exact ⟨h1, by rw [h2]⟩
theorem gt_duo {p : Nat × Nat} {i j : Nat} : GT K C m (gTup K 2 (gCons (gName i) (gCons (gName j) gNil))) (.d (duoD p)) r ((r.set i (some (.d (natD p.1)))).set j (some (.d (natD p.2)))) [i, j] :=
  gt_tup (xs := [natD p.1, natD p.2]) (gts_cons (x := .d (natD p.1)) (xs := [.d (natD p.2)]) gt_nameD (gts_cons (x := .d (natD p.2)) (xs := []) gt_nameD gts_nil))
theorem shaped_natL {l : List PyData} (h : ∀ d ∈ l, ∃ n : Nat, d = natD n) : SeqAt.shaped (.list l) = true := by
  refine shaped_lst (fun d hd => ?_) (fun d hd => ?_)
  · obtain ⟨n, rfl⟩ := h d hd
    rfl
  · obtain ⟨n, rfl⟩ := h d hd
    simp only [natD, PyData.depth]
    omega
theorem given_nil' {ds : List PyData} {n : Nat} {f : Nat → Bool} {v : Nat → PyData} : (givenD ds f v n = []) ↔ anyF n f = false := by
  unfold givenD anyF
  rw [List.map_eq_nil_iff, List.filter_eq_nil_iff, List.any_eq_false]
theorem anyF_true {n : Nat} {f : Nat → Bool} (h : anyF n f = true) : ∃ i, i < n ∧ f i = true := by
  unfold anyF at h
  obtain ⟨i, hi, e⟩ := List.any_eq_true.mp h
  exact ⟨i, List.mem_range.mp hi, e⟩
theorem anyF_false {n : Nat} {f : Nat → Bool} (h : anyF n f = false) : ∀ i, i < n → f i = false := by
  unfold anyF at h
  rw [List.any_eq_false] at h
  intro i hi
  have := h i (List.mem_range.mpr hi)
  simpa using this
theorem cl_LClash (T : Bl K w mg C aW aP) (cM : Cl P w K mg base 2 "_law_marks" (PLMarksT K C)) (cA : Cl P w K mg base 3 "_law_all_marks" (PLAllMarks K C)) (cL : Cl P w K mg base 1 "_law_lots" (PLLots K C)) (d : Df K mg "_law_clash" sLClash ["_law_facts_here"]) : Cl P w K mg base 4 "_law_clash" (PLClash K C) :=
  pd_cl d scLClash (fun _ => rfl) (fun _ => rfl) fun f cdv A outer s H E a hr hp => ⟨_, dvLClash T cM (by omega) cA (by omega) cL (by omega) hr, by
    have ho : FcOk a := hp
    have hul := ho.ul
    have hel := ho.el
    refine ds_ifr (et_val (er_onesEq (ds := a.un.map duoD) (fun i => decide (rho a.es (a.un.getD i (0, 0)).1 = rho a.es (a.un.getD i (0, 0)).2)) (it_tup (er_op (er_var rfl rfl) (er_int 2) (rx_ixT fc_2))) (by rw [List.length_map]; omega) fun i d hd => ?_)) (fun e => ?_) fun e => ?_
    · obtain ⟨hi, rfl⟩ := duos_at hd
      have eg : a.un.getD i (0, 0) = a.un[i] := by rw [List.getD_eq_getElem?_getD, List.getElem?_eq_getElem hi] <;> rfl
      obtain ⟨u1, u2⟩ := ho.un _ (List.getElem_mem hi)
      refine ⟨_, _, gt_duo, fun _ h => h, ?_⟩
      rw [eg]
      exact et_eqN (er_rho ho u1 (er_var rfl rfl) (er_var rfl rfl)) (er_rho ho u2 (er_var rfl rfl) (er_var rfl rfl))
    · refine ds_ret er_non fun s es => .inl ⟨es, fun p hp q hq => ?_⟩
      rw [List.length_map] at e
      have e : anyF a.un.length (fun i => decide (rho a.es (a.un.getD i (0, 0)).1 = rho a.es (a.un.getD i (0, 0)).2)) = false := by simpa using e
      obtain ⟨i, hi, rfl⟩ := List.getElem_of_mem hq
      have := of_decide_eq_false (anyF_false e i hi)
      rw [List.getD_eq_getElem?_getD, List.getElem?_eq_getElem hi, rho_is hp] at this
      exact this
    · rw [List.length_map] at e
      have e : anyF a.un.length (fun i => decide (rho a.es (a.un.getD i (0, 0)).1 = rho a.es (a.un.getD i (0, 0)).2)) = true := by simpa using e
      obtain ⟨i0, hi0, e0⟩ := anyF_true e
      have e0 := of_decide_eq_true e0
      rw [List.getD_eq_getElem?_getD, List.getElem?_eq_getElem hi0] at e0
      have e0 : rho a.es (a.un[i0]).1 = rho a.es (a.un[i0]).2 := e0
      have hne : a.un ≠ [] := fun z => by rw [z] at hi0; cases hi0
      refine ds_forE (Pd := fun ds => ∃ L : List (List Nat), ds = L.map lotD ∧ (∀ l ∈ L, ∀ x ∈ l, x < a.es.length) ∧ (∀ l ∈ L, l.length ≤ a.es.length) ∧ List.range a.es.length ∈ L)
        (ite_list ((er_call1 (P := fun s => ∃ L : List (List Nat), s = .tl (L.map lotD) ∧ (∀ l ∈ L, ∀ x ∈ l, x < a.es.length) ∧ (∀ l ∈ L, l.length ≤ a.es.length) ∧ List.range a.es.length ∈ L) a.es.length (ea_cons ((er_cb (ea_cons (er_op (er_var rfl rfl) (er_int 1) (rx_ixT fc_1)) ea_nil) rxa_lenT).is (by rw [List.length_map])) ea_nil) hel fun s e => e).imp fun s ⟨L, e, q⟩ => ⟨L.map lotD, e, L, rfl, q⟩))
        (fun ds i r => (∃ x1 x2 x3 x4 x5 x6, r = [some (.d a.d), x1, x2, x3, x4, x5, x6]) ∧ ∀ L : List (List Nat), ds = L.map lotD → ∀ (j : Nat) (hj : j < L.length), j < i → ∀ q ∈ a.un, rho (pickE a L[j]) q.1 ≠ rho (pickE a L[j]) q.2) (fun ds _ => ⟨⟨none, none, none, none, none, none, rfl⟩, fun L _ j _ hj => absurd hj (Nat.not_lt_zero _)⟩)
        (fun ds ⟨L, eL, o1, o2, o3⟩ i d r' hd ⟨⟨x1, x2, x3, x4, x5, x6, er⟩, hno⟩ => ?_) fun ds ⟨L, eL, o1, o2, o3⟩ r' ⟨⟨x1, x2, x3, x4, x5, x6, er⟩, hno⟩ => ?_
      · subst er eL
        obtain ⟨hi, rfl⟩ := lots_at hd
        have m1 := o1 _ (List.getElem_mem hi)
        have m2 := o2 _ (List.getElem_mem hi)
        refine ⟨_, _, gt_nameD, ds_setX (P := fun z => ∃ M, z = .tl (M.map natD) ∧ IsMk a.n (pickE a L[i]) M) (er_call1 (a, L[i]) (ea_cons (er_var rfl rfl) (ea_cons (er_var rfl rfl) ea_nil)) ⟨ho, m1, show (L[i]).length ≤ 100 by omega⟩ fun s e => e) (fun s ⟨M, e, _⟩ => by rw [e]; exact ⟨rfl, fun _ z => nomatch z⟩) fun s ⟨M, e, hM⟩ => ?_⟩
        subst e
        refine ds_setTl (y := givenD (enumD (a.un.map duoD)) (fun i => decide (mk M (a.un.getD i (0, 0)).1 = mk M (a.un.getD i (0, 0)).2)) (fun i => natD i) (enumD (a.un.map duoD)).length) (er_own1 (eo_lcF _ _ (it_enumT (er_op (er_var rfl rfl) (er_int 2) (rx_ixT fc_2))) (by unfold enumD; rw [List.length_map, List.length_range, List.length_map]; omega) fun j d hd2 => ?_)) ?_
        · have hj : j < a.un.length := by
            have := (List.getElem?_eq_some_iff.mp hd2).1
            unfold enumD at this
            rw [List.length_map, List.length_range, List.length_map] at this
            exact this
          have ed : d = .tuple [natD j, duoD a.un[j]] := by
            unfold enumD at hd2
            rw [List.getElem?_map, List.getElem?_range (by rw [List.length_map]; exact hj)] at hd2
            cases hd2
            show PyData.tuple [natD j, (a.un.map duoD).getD j .none] = _
            rw [List.getD_eq_getElem?_getD, List.getElem?_map, List.getElem?_eq_getElem hj] <;> rfl
          subst ed
          have eg : a.un.getD j (0, 0) = a.un[j] := by rw [List.getD_eq_getElem?_getD, List.getElem?_eq_getElem hj] <;> rfl
          obtain ⟨u1, u2⟩ := ho.un _ (List.getElem_mem hj)
          rw [← hM.len] at u1 u2
          refine ⟨_, _, gt_tup (xs := [natD j, duoD a.un[j]]) (gts_cons (x := .d (natD j)) (xs := [.d (duoD a.un[j])]) gt_nameD (gts_cons (x := .d (duoD a.un[j])) (xs := []) gt_duo gts_nil)), fun _ h => h, ?_, fun _ => er_var rfl rfl⟩
          rw [eg]
          exact et_eqN (er_mark u1 (er_varL rfl) (er_var rfl rfl)) (er_mark u2 (er_varL rfl) (er_var rfl rfl))
        · have hlen : (enumD (a.un.map duoD)).length = a.un.length := by unfold enumD; rw [List.length_map, List.length_range, List.length_map]
          rw [hlen]
          refine ds_if1 (et_is (et_val (er_op (er_varL rfl) er_lst0 (rx_neD (shaped_natL fun d hd => ?_) shaped_nil))) (by rw [eqv_nil])) (fun e2 => ?_) fun e2 => ?_
          · unfold givenD at hd
            obtain ⟨i, _, rfl⟩ := List.mem_map.mp hd
            exact ⟨i, rfl⟩
          · have hnn : givenD (enumD (a.un.map duoD)) (fun i => decide (mk M (a.un.getD i (0, 0)).1 = mk M (a.un.getD i (0, 0)).2)) (fun i => natD i) a.un.length ≠ [] := by simpa using e2
            obtain ⟨y, ys, ey⟩ := List.exists_cons_of_ne_nil hnn
            exact ds_ret (er_tup (xs := [y, lotD L[i]]) (ea_cons (er_op (er_varL rfl) (er_int 0) (rx_ixL (at_head (by rw [ey] <;> rfl)))) (ea_cons (er_var rfl rfl) ea_nil)) (show 2 ≤ 100000 by decide)) fun s es => .inr ⟨⟨_, es⟩, hne⟩
          · have hnn : givenD (enumD (a.un.map duoD)) (fun i => decide (mk M (a.un.getD i (0, 0)).1 = mk M (a.un.getD i (0, 0)).2)) (fun i => natD i) a.un.length = [] := by simpa using e2
            have hf := anyF_false (given_nil'.mp hnn)
            refine ds_next ⟨⟨_, _, _, _, _, _, rfl⟩, fun L' eL' j hj hji q hq => ?_⟩
            have inj : L = L' := by
              have hh : ∀ A B : List (List Nat), A.map lotD = B.map lotD → A = B := fun A B q => by
                have := congrArg (List.map fun d => match d with
                  | PyData.tuple ds => ds.map (fun d => match d with | PyData.int i => i.toNat | _ => 0)
                  | _ => []) q
                rw [List.map_map, List.map_map] at this
                have k : ((fun d => match d with
                  | PyData.tuple ds => ds.map (fun d => match d with | PyData.int i => i.toNat | _ => 0)
                  | _ => []) ∘ lotD) = id := funext fun l => by
                  show (l.map natD).map _ = l
                  rw [List.map_map]
                  have : ((fun d => match d with | PyData.int i => i.toNat | _ => 0) ∘ natD) = id := funext fun n => Int.toNat_natCast n
                  rw [this, List.map_id]
                rw [k, List.map_id, List.map_id] at this
                exact this
              exact hh L L' eL'
            subst inj
            by_cases z : j = i
            · subst z
              obtain ⟨c, hc, rfl⟩ := List.getElem_of_mem hq
              have := of_decide_eq_false (hf c hc)
              rw [List.getD_eq_getElem?_getD, List.getElem?_eq_getElem hc] at this
              rw [rho_is hM.root]
              exact this
            · exact hno L rfl j hj (by omega) q hq
      · subst er eL
        obtain ⟨j, hj, ej⟩ := List.getElem_of_mem o3
        have := hno L rfl j hj (by rw [List.length_map]; exact hj) _ (List.getElem_mem hi0)
        rw [ej, pick_all] at this
        exact absurd e0 this⟩
end
end RD

end
section
set_option linter.all false
set_option maxRecDepth 100000
set_option maxHeartbeats 4000000
/-! B0: promises of the defs that draw. -/
namespace RD
open PySem PySem.Spec PyProof.Rows L2
def rowOk (size : Nat) (r : List Nat) : Prop := r.Perm (List.range size)
/-- a list of lists of whole numbers -/
structure Grid (H : Hp) (g : Addr) (ls : List Addr) (rows : List (List Nat)) : Prop where
  hg : H g = some (.lst (ls.map V.ref))
  len : ls.length = rows.length
  hl : ∀ (i : Nat) l r, ls[i]? = some l → rows[i]? = some r → H l = some (.lst (r.map nV))
  nd : ls.Nodup
  gn : g ∉ ls
def divN : Nat → Nat → Nat → Nat
  | 0, a, _ => a
  | k + 1, a, b => if b = 0 then a else divN k b (a % b)
section
variable (K : PySem.W.Frag) (C : Addr)
abbrev Pb {α : Type} (bg : α → Addr) (pre : α → Prop) (args : α → List Sh) (res : α → Sh → Prop) : Sp := Pr K C (fun a => some (bg a)) pre (fun a => .bag (bg a) :: args a) res
def PLDraw : Sp := Pb K C (fun a : Addr × Nat => a.1) (fun a => 1 ≤ a.2 ∧ a.2 ≤ 100000) (fun a => [.d (natD a.2)]) (fun a s => ∃ d, s = .d (natD d) ∧ d < a.2)
def PLPick : Sp := Pb K C (fun a : Addr × List PyData => a.1) (fun a => a.2 ≠ [] ∧ a.2.length ≤ 100000) (fun a => [.d (.list a.2)]) (fun a s => ∃ x, s = .d x ∧ x ∈ a.2)
def PLDivisor : Sp := PD K C (fun a : Nat × Nat => a.1 ≤ 100 ∧ a.2 ≤ 100) (fun a => [.d (natD a.1), .d (natD a.2)]) (fun a => natD (divN 200 a.1 a.2))
def PLTurned : Sp := Pb K C (fun a : Addr × Nat => a.1) (fun a => a.2 ≤ 100) (fun a => [.d (natD a.2)]) (fun a s => ∃ p : List Nat, s = .d (lotD p) ∧ p.Perm (List.range a.2))
def PLTurnOver : Sp := fun vs H Q _ => ∃ (S : Hp) (b g : Addr) (size : Nat) (ls : List Addr) (rows : List (List Nat)), vs = [.ref b, .ref g, nV size] ∧ K = K ∧ C = C ∧ Same S H ∧ BagOk H b ∧ S b = none ∧ S g = none ∧ (∀ l ∈ ls, S l = none) ∧ Grid H g ls rows ∧ rows.length = size ∧ (∀ r ∈ rows, rowOk size r) ∧ 2 ≤ size ∧ size ≤ 5 ∧ b ∉ ls ∧ b ≠ g ∧
  ∀ (S' H' : Hp) (rows' : List (List Nat)), StD (fun a => a = b ∨ a ∈ ls) S H S' H' → BagOk H' b → Grid H' g ls rows' → rows'.length = size → (∀ r ∈ rows', rowOk size r) → Q .non H'
def PLTable : Sp := Pb K C (fun a : Addr × Nat => a.1) (fun a => 2 ≤ a.2 ∧ a.2 ≤ 5) (fun a => [.d (natD a.2)]) (fun a s => ∃ rows : List (List Nat), s = .d (.tuple (rows.map lotD)) ∧ rows.length = a.2 ∧ ∀ r ∈ rows, r.length = a.2)
def PLThings : Sp := Pb K C (fun a : Addr × Nat × Nat => a.1) (fun a => a.2.1 ≤ 100 ∧ 1 ≤ a.2.2 ∧ a.2.2 ≤ 100) (fun a => [.d (natD a.2.1), .d (natD a.2.2)]) (fun a s => ∃ t : List Nat, s = .d (lotD t) ∧ t.length = a.2.1 ∧ ∀ x ∈ t, x < a.2.2)
def PLFormula (n : Nat) : Sp := Pb K C (fun a : Addr × Nat × Nat => a.1) (fun a => 1 ≤ a.2.1 ∧ a.2.1 ≤ 8 ∧ a.2.2 < n) (fun a => [.d (natD a.2.1), .d (natD a.2.2)]) (fun a s => ∃ f : F, s = .d f.d ∧ f.lt a.2.1 = true ∧ f.dep ≤ a.2.2)
def PLFacts : Sp := Pb K C (fun a : Addr × Nat => a.1) (fun a => 1 ≤ a.2 ∧ a.2 ≤ 8) (fun a => [.d (natD a.2)]) (fun a s => ∃ fc : Fc, s = .d fc.d ∧ fc.n = a.2 ∧ FcOk fc)
def PLGoodFacts : Sp := Pb K C (fun a : Addr × Nat => a.1) (fun a => 1 ≤ a.2 ∧ a.2 ≤ 8) (fun a => [.d (natD a.2)]) (fun a s => ∃ fc : Fc, s = .d fc.d ∧ fc.n = a.2 ∧ FcOk fc ∧ NoClash fc)
def PLNear (n : Nat) : Sp := Pb K C (fun a : Addr × F × Nat => a.1) (fun a => 1 ≤ a.2.2 ∧ a.2.2 ≤ 8 ∧ a.2.1.lt a.2.2 = true ∧ a.2.1.dep < n) (fun a => [.d a.2.1.d, .d (natD a.2.2)]) (fun a s => ∃ f : F, s = .d f.d ∧ f.lt a.2.2 = true ∧ f.dep ≤ a.2.1.dep + 2)
end
end RD

end
section
set_option linter.all false
set_option maxRecDepth 100000
set_option maxHeartbeats 4000000
namespace RD
open PySem PySem.Spec PyProof.Rows L2
abbrev sLDraw : Stmt := topS 43
abbrev NLDraw : List Str := ["_law_bag_here", "_law_limit", "_law_digit", "_law_mixed"]
theorem scLDraw : FnScope NLDraw ["_law_bag_here", "_law_limit"] (defScope sLDraw) := ⟨rfl, rfl, rfl, by decide +kernel, rfl, by decide +kernel, by decide +kernel⟩
def tLDraw (K : PySem.W.Frag) (C : Addr) : TS :=
  (tSeq (tIfS (tTest (tOp (rI0 fun i j => .bl (decide (j < i))) (tOp (rIx K) (tVar 0) (tC (.int 0))) (tC (.int 0)))) (tSeq (tAsg (tOp (rI (fun _ j => 0 < j) fun i j => .int (i % j)) (tCB rInt1 (tCons (tOp (rIx K) (tVar 0) (tC (.int 0))) tNil)) (tVar 1)) (gName 2))
    (tSeq (tAsg (tOp (rI CDiv fun i j => .int (i / j)) (tOp (rIx K) (tVar 0) (tC (.int 0))) (tVar 1)) (gSub (tVar 0) (tC (.int 0)) rSetL))
    (tRet (tVar 2)))) tNext)
    (tSeq (tAsg (tOp (rI0 fun i j => .int (i + j)) (tOp (rIx K) (tVar 0) (tC (.int 2))) (tC (.int 1))) (gSub (tVar 0) (tC (.int 2)) rSetL))
    (tSeq (tAsg (tOp (rI0 fun i j => .int (i + j)) (tOp (rI CMul fun i j => .int (i * j)) (tOp (rIx K) (tVar 0) (tC (.int 1))) (tC (.int 2862933555777941757))) (tOp (rI CMul fun i j => .int (i * j)) (tC (.int 3037000493)) (tOp (rIx K) (tVar 0) (tC (.int 2))))) (gName 3))
    (tSeq (tAsg (tOp (rI (fun _ j => 0 < j) fun i j => .int (i % j)) (tCB rInt1 (tCons (tVar 3) tNil)) (tC (.int 2305843009213693951))) (gSub (tVar 0) (tC (.int 1)) rSetL))
    (tRet (tOp (rI (fun _ j => 0 < j) fun i j => .int (i % j)) (tOp (rI CDiv fun i j => .int (i / j)) (tOp (rI (fun _ j => 0 < j) fun i j => .int (i % j)) (tCB rInt1 (tCons (tOp (rI CMul fun i j => .int (i * j)) (tOp (rIx K) (tVar 0) (tC (.int 1))) (tOp (rIx K) (tVar 0) (tC (.int 1)))) tNil)) (tC (.int 2305843009213693921))) (tC (.int 4096))) (tVar 1)))))))
set_option maxHeartbeats 8000000 in
theorem dvLDraw {P : Program} {w : World} {K : PySem.W.Frag} {mg : Str → Option Value} {base : Heap} {C aW aP : Addr} {f : Addr} {cdv : Value} {A : Around} {outer : List Env} {s : Shared} {H : Hp} {E : XK} {k : Nat} (T : Bl K w mg C aW aP)  (hr : Room k (A.deeper (envOfC "_law_draw" (defScope sLDraw) s.heap.objs.size f cdv))) :
    PSs (cxOf L2.CX0 P w K mg base NLDraw "_law_draw" (defScope sLDraw) f cdv A outer s H E).nox (defBody sLDraw) (tLDraw K C) :=
  (pss_cons (ps_if (pt_cmpR op_gt (pe_ix ix_seq (pv 0) pe_int (fun _ _ => rfl)) pe_int (nomark _)) (pss_cons (ps_set (i := 2) scLDraw.nd rfl (Or.inl rfl) (pe_op op_mod (pe_callTy call_int1 (by rfl) T.int_ (by decide +kernel) (pa_cons (pe_ix ix_seq (pv 0) pe_int (fun _ _ => rfl)) pa_nil)) (pv 1)))
    (pss_cons (ps_asg (pe_op op_fdiv (pe_ix ix_seq (pv 0) pe_int (fun _ _ => rfl)) (pv 1)) (pg_sub (pv 0) pe_int set_list))
    (pss_one (ps_ret (pv 2))))) pss_nil)
    (pss_cons (ps_asg (pe_op op_add (pe_ix ix_seq (pv 0) pe_int (fun _ _ => rfl)) pe_int) (pg_sub (pv 0) pe_int set_list))
    (pss_cons (ps_set (i := 3) scLDraw.nd rfl (Or.inl rfl) (pe_op op_add (pe_op op_mul (pe_ix ix_seq (pv 0) pe_int (fun _ _ => rfl)) pe_int) (pe_op op_mul pe_int (pe_ix ix_seq (pv 0) pe_int (fun _ _ => rfl)))))
    (pss_cons (ps_asg (pe_op op_mod (pe_callTy call_int1 (by rfl) T.int_ (by decide +kernel) (pa_cons (pv 3) pa_nil)) pe_int) (pg_sub (pv 0) pe_int set_list))
    (pss_one (ps_ret (pe_op op_mod (pe_op op_fdiv (pe_op op_mod (pe_callTy call_int1 (by rfl) T.int_ (by decide +kernel) (pa_cons (pe_op op_mul (pe_ix ix_seq (pv 0) pe_int (fun _ _ => rfl)) (pe_ix ix_seq (pv 0) pe_int (fun _ _ => rfl))) pa_nil)) pe_int) pe_int) (pv 1))))))))
abbrev sLPick : Stmt := topS 44
abbrev NLPick : List Str := ["_law_bag_here", "_law_items"]
theorem scLPick : FnScope NLPick ["_law_bag_here", "_law_items"] (defScope sLPick) := ⟨rfl, rfl, rfl, by decide +kernel, rfl, by decide +kernel, by decide +kernel⟩
def tLPick (K : PySem.W.Frag) (C : Addr) : TS :=
  (tRet (tOp (rIx K) (tVar 1) (tCall (PLDraw K C) [] L2.E0 (tCons (tVar 0) (tCons (tCB (rLenK K) (tCons (tVar 1) tNil)) tNil)))))
set_option maxHeartbeats 8000000 in
theorem dvLPick {P : Program} {w : World} {K : PySem.W.Frag} {mg : Str → Option Value} {base : Heap} {C aW aP : Addr} {f : Addr} {cdv : Value} {A : Around} {outer : List Env} {s : Shared} {H : Hp} {E : XK} {k : Nat} (T : Bl K w mg C aW aP) {jLDraw : Nat} (cLDraw : Cl P w K mg base jLDraw "_law_draw" (PLDraw K C)) (hjLDraw : jLDraw ≤ k) (hr : Room k (A.deeper (envOfC "_law_pick" (defScope sLPick) s.heap.objs.size f cdv))) :
    PSs (cxOf L2.CX0 P w K mg base NLPick "_law_pick" (defScope sLPick) f cdv A outer s H E).nox (defBody sLPick) (tLPick K C) :=
  (pss_one (ps_ret (pe_ix ix_seq (pv 1) (pe_d cLDraw hr (by omega) (by rfl) (pa_cons (pv 0) (pa_cons (pe_callB call_len_seq (by rfl) T.len_ PySem.boot_len (pa_cons (pv 1) pa_nil)) pa_nil))) (fun _ _ => rfl))))
abbrev sLDivisor : Stmt := topS 45
abbrev NLDivisor : List Str := ["_law_one", "_law_other", "_law_turn"]
theorem scLDivisor : FnScope NLDivisor ["_law_one", "_law_other"] (defScope sLDivisor) := ⟨rfl, rfl, rfl, by decide +kernel, rfl, by decide +kernel, by decide +kernel⟩
def tLDivisor (K : PySem.W.Frag) (C : Addr) : TS :=
  (tSeq (tFor (iRng1 (tCons (tC (.int 200)) tNil)) (gName 2) (tSeq (tIfS (tTest (tOp (rEqD K) (tVar 1) (tC (.int 0)))) tBreak tNext)
    (tPar 0 1 (tCons (tVar 1) (tCons (tOp (rI (fun _ j => 0 < j) fun i j => .int (i % j)) (tCB rInt1 (tCons (tVar 0) tNil)) (tVar 1)) tNil)))))
    (tRet (tVar 0)))
set_option maxHeartbeats 8000000 in
theorem dvLDivisor {P : Program} {w : World} {K : PySem.W.Frag} {mg : Str → Option Value} {base : Heap} {C aW aP : Addr} {f : Addr} {cdv : Value} {A : Around} {outer : List Env} {s : Shared} {H : Hp} {E : XK} {k : Nat} (T : Bl K w mg C aW aP)  (hr : Room k (A.deeper (envOfC "_law_divisor" (defScope sLDivisor) s.heap.objs.size f cdv))) :
    PSs (cxOf L2.CX0 P w K mg base NLDivisor "_law_divisor" (defScope sLDivisor) f cdv A outer s H E).nox (defBody sLDivisor) (tLDivisor K C) :=
  (pss_cons (ps_for PassesOwn.never rfl (pi_range1 (by rfl) T.range_ (pa_cons pe_int pa_nil)) (pg_name (i := 2) scLDivisor.nd rfl (Or.inl rfl)) (pss_cons (ps_if (pt_cmpR (op_eqD hr.units) (pv 1) pe_int (nomark _)) (pss_one ps_break) pss_nil)
    (pss_one (ps_par (i := 0) (j := 1) rfl scLDivisor.nd rfl rfl (by decide) rfl rfl (pa_cons (pv 1) (pa_cons (pe_op op_mod (pe_callTy call_int1 (by rfl) T.int_ (by decide +kernel) (pa_cons (pv 0) pa_nil)) (pv 1)) pa_nil)) (by rfl)))))
    (pss_one (ps_ret (pv 0))))
abbrev sLTurned : Stmt := topS 46
abbrev NLTurned : List Str := ["_law_bag_here", "_law_many", "_law_rest", "_law_found", "_law_turn"]
theorem scLTurned : FnScope NLTurned ["_law_bag_here", "_law_many"] (defScope sLTurned) := ⟨rfl, rfl, rfl, by decide +kernel, rfl, by decide +kernel, by decide +kernel⟩
def tLTurned (K : PySem.W.Frag) (C : Addr) : TS :=
  (tSeq (tPar 2 3 (tCons (tLstRg (tRg1 (tVar 1))) (tCons (tLst tNil) tNil)))
    (tSeq (tFor (iRng1 (tCons (tVar 1) tNil)) (gName 4) (tDrop (tBM K "list" rAppend (tVar 3) (tCons (tBM K "list" rPopAt (tVar 2) (tCons (tCall (PLDraw K C) [] L2.E0 (tCons (tVar 0) (tCons (tCB (rLenK K) (tCons (tVar 2) tNil)) tNil))) tNil)) tNil))))
    (tRet (tCB (rTupOf K) (tCons (tVar 3) tNil)))))
set_option maxHeartbeats 8000000 in
theorem dvLTurned {P : Program} {w : World} {K : PySem.W.Frag} {mg : Str → Option Value} {base : Heap} {C aW aP : Addr} {f : Addr} {cdv : Value} {A : Around} {outer : List Env} {s : Shared} {H : Hp} {E : XK} {k : Nat} (T : Bl K w mg C aW aP) {jLDraw : Nat} (cLDraw : Cl P w K mg base jLDraw "_law_draw" (PLDraw K C)) (hjLDraw : jLDraw ≤ k) (hr : Room k (A.deeper (envOfC "_law_turned" (defScope sLTurned) s.heap.objs.size f cdv))) :
    PSs (cxOf L2.CX0 P w K mg base NLTurned "_law_turned" (defScope sLTurned) f cdv A outer s H E).nox (defBody sLTurned) (tLTurned K C) :=
  (pss_cons (ps_par (i := 2) (j := 3) rfl scLTurned.nd rfl rfl (by decide) rfl rfl (pa_cons (pe_listRg rfl (by rfl) T.list_ (prg_1 (by rfl) T.range_ (pv 1))) (pa_cons (pe_lst pa_nil) pa_nil)) (by rfl))
    (pss_cons (ps_for PassesOwn.never rfl (pi_range1 (by rfl) T.range_ (pa_cons (pv 1) pa_nil)) (pg_name (i := 4) scLTurned.nd rfl (Or.inl rfl)) (pss_one (ps_expr (pe_bm PySem.F.plainAttrs_list PySem.F.slot_list_append PySem.F.type_list_append mt_append (pv 3) (pa_cons (pe_bm PySem.F.plainAttrs_list PySem.F.slot_list_pop PySem.F.type_list_pop mt_popAt (pv 2) (pa_cons (pe_d cLDraw hr (by omega) (by rfl) (pa_cons (pv 0) (pa_cons (pe_callB call_len_seq (by rfl) T.len_ PySem.boot_len (pa_cons (pv 2) pa_nil)) pa_nil))) pa_nil)) pa_nil)))))
    (pss_one (ps_ret (pe_callTy call_tuple_of (by rfl) T.tuple_ (by decide +kernel) (pa_cons (pv 3) pa_nil))))))
abbrev sLTurnOver : Stmt := topS 47
abbrev NLTurnOver : List Str := ["_law_bag_here", "_law_rows_here", "_law_size", "_law_one", "_law_other", "_law_column", "_law_begin", "_law_turn", "_law_k"]
theorem scLTurnOver : FnScope NLTurnOver ["_law_bag_here", "_law_rows_here", "_law_size"] (defScope sLTurnOver) := ⟨rfl, rfl, rfl, by decide +kernel, rfl, by decide +kernel, by decide +kernel⟩
def tLTurnOver (K : PySem.W.Frag) (C : Addr) : TS :=
  (tSeq (tAsg (tTup (tCons (tCall (PLDraw K C) [] L2.E0 (tCons (tVar 0) (tCons (tVar 2) tNil))) (tCons (tCall (PLDraw K C) [] L2.E0 (tCons (tVar 0) (tCons (tVar 2) tNil))) tNil))) (gTup K 2 (gCons (gName 3) (gCons (gName 4) gNil))))
    (tSeq (tAsg (tCall (PLDraw K C) [] L2.E0 (tCons (tVar 0) (tCons (tVar 2) tNil))) (gName 5))
    (tIfS (tTest (tOp (rNeD K) (tVar 3) (tVar 4))) (tSeq (tAsg (tOp (rIx K) (tOp (rIx K) (tVar 1) (tVar 3)) (tVar 5)) (gName 6))
    (tFor (iRng1 (tCons (tVar 2) tNil)) (gName 7) (tSeq (tAsg (tTup (tCons (tOp (rIx K) (tOp (rIx K) (tVar 1) (tVar 4)) (tVar 5)) (tCons (tOp (rIx K) (tOp (rIx K) (tVar 1) (tVar 3)) (tVar 5)) tNil))) (gTup K 2 (gCons (gSub (tOp (rIx K) (tVar 1) (tVar 3)) (tVar 5) rSetL) (gCons (gSub (tOp (rIx K) (tVar 1) (tVar 4)) (tVar 5) rSetL) gNil))))
    (tSeq (tIfS (tTest (tOp (rEqD K) (tOp (rIx K) (tOp (rIx K) (tVar 1) (tVar 3)) (tVar 5)) (tVar 6))) tBreak tNext)
    (tAsg (tOp (rIx K) (tLc (iRng1 (tCons (tVar 2) tNil)) (gName 8) (tAnd (tTest (tOp (rNeD K) (tVar 8) (tVar 5))) (tTest (tOp (rEqD K) (tOp (rIx K) (tOp (rIx K) (tVar 1) (tVar 3)) (tVar 8)) (tOp (rIx K) (tOp (rIx K) (tVar 1) (tVar 3)) (tVar 5))))) (tVar 8) [8]) (tC (.int 0))) (gName 5)))))) tNext)))
set_option maxHeartbeats 8000000 in
theorem dvLTurnOver {P : Program} {w : World} {K : PySem.W.Frag} {mg : Str → Option Value} {base : Heap} {C aW aP : Addr} {f : Addr} {cdv : Value} {A : Around} {outer : List Env} {s : Shared} {H : Hp} {E : XK} {k : Nat} (T : Bl K w mg C aW aP) {jLDraw : Nat} (cLDraw : Cl P w K mg base jLDraw "_law_draw" (PLDraw K C)) (hjLDraw : jLDraw ≤ k) (hr : Room k (A.deeper (envOfC "_law_turn_over" (defScope sLTurnOver) s.heap.objs.size f cdv))) :
    PSs (cxOf L2.CX0 P w K mg base NLTurnOver "_law_turn_over" (defScope sLTurnOver) f cdv A outer s H E).nox (defBody sLTurnOver) (tLTurnOver K C) :=
  (pss_cons (ps_asg (pe_tup (pa_cons (pe_d cLDraw hr (by omega) (by rfl) (pa_cons (pv 0) (pa_cons (pv 2) pa_nil))) (pa_cons (pe_d cLDraw hr (by omega) (by rfl) (pa_cons (pv 0) (pa_cons (pv 2) pa_nil))) pa_nil))) (pg_tup rfl (pgs_cons (pg_name (i := 3) scLTurnOver.nd rfl (Or.inr rfl)) (pgs_cons (pg_name (i := 4) scLTurnOver.nd rfl (Or.inl rfl)) pgs_nil))))
    (pss_cons (ps_set (i := 5) scLTurnOver.nd rfl (Or.inr rfl) (pe_d cLDraw hr (by omega) (by rfl) (pa_cons (pv 0) (pa_cons (pv 2) pa_nil))))
    (pss_one (ps_if (pt_cmpR (op_neD hr.units) (pv 3) (pv 4) (nomark _)) (pss_cons (ps_set (i := 6) scLTurnOver.nd rfl (Or.inl rfl) (pe_ix ix_seq (pe_ix ix_seq (pv 1) (pv 3) (fun _ _ => rfl)) (pv 5) (fun _ _ => rfl)))
    (pss_one (ps_for PassesOwn.never rfl (pi_range1 (by rfl) T.range_ (pa_cons (pv 2) pa_nil)) (pg_name (i := 7) scLTurnOver.nd rfl (Or.inl rfl)) (pss_cons (ps_asg (pe_tup (pa_cons (pe_ix ix_seq (pe_ix ix_seq (pv 1) (pv 4) (fun _ _ => rfl)) (pv 5) (fun _ _ => rfl)) (pa_cons (pe_ix ix_seq (pe_ix ix_seq (pv 1) (pv 3) (fun _ _ => rfl)) (pv 5) (fun _ _ => rfl)) pa_nil))) (pg_tup rfl (pgs_cons (pg_sub (pe_ix ix_seq (pv 1) (pv 3) (fun _ _ => rfl)) (pv 5) set_list) (pgs_cons (pg_sub (pe_ix ix_seq (pv 1) (pv 4) (fun _ _ => rfl)) (pv 5) set_list) pgs_nil))))
    (pss_cons (ps_if (pt_cmpR (op_eqD hr.units) (pe_ix ix_seq (pe_ix ix_seq (pv 1) (pv 3) (fun _ _ => rfl)) (pv 5) (fun _ _ => rfl)) (pv 6) (nomark _)) (pss_one ps_break) pss_nil)
    (pss_one (ps_set (i := 5) scLTurnOver.nd rfl (Or.inr rfl) (pe_ix ix_seq (pe_lc (own := [("_law_k", 8)]) (g := (gName 8)) (tt := (tAnd (tTest (tOp (rNeD K) (tVar 8) (tVar 5))) (tTest (tOp (rEqD K) (tOp (rIx K) (tOp (rIx K) (tVar 1) (tVar 3)) (tVar 8)) (tOp (rIx K) (tOp (rIx K) (tVar 1) (tVar 3)) (tVar 5)))))) (te := (tVar 8)) rfl scLTurnOver.nd (pi_range1 (by rfl) T.range_ (pa_cons (pv 2) pa_nil)) (blkOk_by (N := NLTurnOver) (sc := (defScope sLTurnOver)) (own := [("_law_k", 8)]) (by decide +kernel)) (fun _ _ _ _ _ => (pg_name (i := 8) scLTurnOver.nd rfl (Or.inl rfl))) (fun _ _ _ _ _ => (pts_one (PW.pt (pw_and (pt_cmpR (op_neD hr.units) (pv 8) (pv 5) (nomark _)) (pw_and1 (pt_cmpR (op_eqD hr.units) (pe_ix ix_seq (pe_ix ix_seq (pv 1) (pv 3) (fun _ _ => rfl)) (pv 8) (fun _ _ => rfl)) (pe_ix ix_seq (pe_ix ix_seq (pv 1) (pv 3) (fun _ _ => rfl)) (pv 5) (fun _ _ => rfl)) (nomark _))))))) (fun _ _ _ _ _ => (pv 8))) pe_int (fun _ _ => rfl))))))))) pss_nil))))
abbrev sLTable : Stmt := topS 48
abbrev NLTable : List Str := ["_law_bag_here", "_law_size", "_law_times", "_law_orders", "_law_found", "_law_turn", "_law_x", "_law_own", "_law_y", "_law_row"]
theorem scLTable : FnScope NLTable ["_law_bag_here", "_law_size"] (defScope sLTable) := ⟨rfl, rfl, rfl, by decide +kernel, rfl, by decide +kernel, by decide +kernel⟩
def tLTable (K : PySem.W.Frag) (C : Addr) : TS :=
  (tSeq (tAsg (tCall (PLPick K C) [] L2.E0 (tCons (tVar 0) (tCons (tLc (iRng2 (tCons (tC (.int 1)) (tCons (tOp (rI0 fun i j => .int (i + j)) (tVar 1) (tC (.int 1))) tNil))) (gName 7) (tTest (tOp (rEqD K) (tCall (PLDivisor K C) [] L2.E0 (tCons (tVar 7) (tCons (tVar 1) tNil))) (tC (.int 1)))) (tVar 7) [7]) tNil))) (gName 2))
    (tSeq (tAsg (tLc (iRng1 (tCons (tC (.int 3)) tNil)) (gName 5) tYes (tCall (PLTurned K C) [] L2.E0 (tCons (tVar 0) (tCons (tVar 1) tNil))) [5]) (gName 3))
    (tSeq (tAsg (tLc (iRng1 (tCons (tVar 1) tNil)) (gName 6) tYes (tLc (iRng1 (tCons (tVar 1) tNil)) (gName 8) tYes (tOp (rIx K) (tOp (rIx K) (tVar 3) (tC (.int 2))) (tOp (rI (fun _ j => 0 < j) fun i j => .int (i % j)) (tCB rInt1 (tCons (tOp (rI0 fun i j => .int (i + j)) (tOp (rIx K) (tOp (rIx K) (tVar 3) (tC (.int 0))) (tVar 6)) (tOp (rI CMul fun i j => .int (i * j)) (tVar 2) (tOp (rIx K) (tOp (rIx K) (tVar 3) (tC (.int 1))) (tVar 8)))) tNil)) (tVar 1))) [8]) [6]) (gName 4))
    (tSeq (tFor (iRng1 (tCons (tCall (PLDraw K C) [] L2.E0 (tCons (tVar 0) (tCons (tOp (rI CMul fun i j => .int (i * j)) (tC (.int 2)) (tVar 1)) tNil))) tNil)) (gName 5) (tDrop (tCall (PLTurnOver K C) [] L2.E0 (tCons (tVar 0) (tCons (tVar 4) (tCons (tVar 1) tNil))))))
    (tRet (tCB (rTupOf K) (tCons (tLc (iList K (tVar 4)) (gName 9) tYes (tCB (rTupOf K) (tCons (tVar 9) tNil)) [9]) tNil)))))))
set_option maxHeartbeats 8000000 in
theorem dvLTable {P : Program} {w : World} {K : PySem.W.Frag} {mg : Str → Option Value} {base : Heap} {C aW aP : Addr} {f : Addr} {cdv : Value} {A : Around} {outer : List Env} {s : Shared} {H : Hp} {E : XK} {k : Nat} (T : Bl K w mg C aW aP) {jLDraw : Nat} (cLDraw : Cl P w K mg base jLDraw "_law_draw" (PLDraw K C)) (hjLDraw : jLDraw ≤ k)
    {jLPick : Nat} (cLPick : Cl P w K mg base jLPick "_law_pick" (PLPick K C)) (hjLPick : jLPick ≤ k)
    {jLDivisor : Nat} (cLDivisor : Cl P w K mg base jLDivisor "_law_divisor" (PLDivisor K C)) (hjLDivisor : jLDivisor ≤ k)
    {jLTurned : Nat} (cLTurned : Cl P w K mg base jLTurned "_law_turned" (PLTurned K C)) (hjLTurned : jLTurned ≤ k)
    {jLTurnOver : Nat} (cLTurnOver : Cl P w K mg base jLTurnOver "_law_turn_over" (PLTurnOver K C)) (hjLTurnOver : jLTurnOver ≤ k) (hr : Room k (A.deeper (envOfC "_law_table" (defScope sLTable) s.heap.objs.size f cdv))) :
    PSs (cxOf L2.CX0 P w K mg base NLTable "_law_table" (defScope sLTable) f cdv A outer s H E).nox (defBody sLTable) (tLTable K C) :=
  (pss_cons (ps_set (i := 2) scLTable.nd rfl (Or.inr rfl) (pe_d cLPick hr (by omega) (by rfl) (pa_cons (pv 0) (pa_cons (pe_lc (own := [("_law_own", 7)]) (g := (gName 7)) (tt := (tTest (tOp (rEqD K) (tCall (PLDivisor K C) [] L2.E0 (tCons (tVar 7) (tCons (tVar 1) tNil))) (tC (.int 1))))) (te := (tVar 7)) rfl scLTable.nd (pi_range2 (by rfl) T.range_ (pa_cons pe_int (pa_cons (pe_op op_add (pv 1) pe_int) pa_nil))) (blkOk_by (N := NLTable) (sc := (defScope sLTable)) (own := [("_law_own", 7)]) (by decide +kernel)) (fun _ _ _ _ _ => (pg_name (i := 7) scLTable.nd rfl (Or.inl rfl))) (fun _ _ _ _ _ => (pts_one (pt_cmpR (op_eqD hr.units) (pe_d cLDivisor hr (by omega) (by rfl) (pa_cons (pv 7) (pa_cons (pv 1) pa_nil))) pe_int (nomark _)))) (fun _ _ _ _ _ => (pv 7))) pa_nil))))
    (pss_cons (ps_set (i := 3) scLTable.nd rfl (Or.inr rfl) (pe_lc (own := [("_law_turn", 5)]) (g := (gName 5)) (tt := tYes) (te := (tCall (PLTurned K C) [] L2.E0 (tCons (tVar 0) (tCons (tVar 1) tNil)))) rfl scLTable.nd (pi_range1 (by rfl) T.range_ (pa_cons pe_int pa_nil)) (blkOk_by (N := NLTable) (sc := (defScope sLTable)) (own := [("_law_turn", 5)]) (by decide +kernel)) (fun _ _ _ _ _ => (pg_name (i := 5) scLTable.nd rfl (Or.inl rfl))) (fun _ _ _ _ _ => pts_nil) (fun _ _ _ _ _ => (pe_d cLTurned hr (by omega) (by rfl) (pa_cons (pv 0) (pa_cons (pv 1) pa_nil))))))
    (pss_cons (ps_setLc (i := 4) (own := [("_law_x", 6)]) (g := (gName 6)) (tt := tYes) (te := (tLc (iRng1 (tCons (tVar 1) tNil)) (gName 8) tYes (tOp (rIx K) (tOp (rIx K) (tVar 3) (tC (.int 2))) (tOp (rI (fun _ j => 0 < j) fun i j => .int (i % j)) (tCB rInt1 (tCons (tOp (rI0 fun i j => .int (i + j)) (tOp (rIx K) (tOp (rIx K) (tVar 3) (tC (.int 0))) (tVar 6)) (tOp (rI CMul fun i j => .int (i * j)) (tVar 2) (tOp (rIx K) (tOp (rIx K) (tVar 3) (tC (.int 1))) (tVar 8)))) tNil)) (tVar 1))) [8])) rfl scLTable.nd rfl rfl (sw_true rfl rfl rfl (by decide +kernel)) (pi_range1 (by rfl) T.range_ (pa_cons (pv 1) pa_nil)) (blkOk_by (N := NLTable) (sc := (defScope sLTable)) (own := [("_law_x", 6)]) (by decide +kernel)) (fun _ _ _ _ _ => (pg_name (i := 6) scLTable.nd rfl (Or.inr rfl))) (fun _ _ _ _ _ => pts_nil) (fun _ _ _ _ _ => (pe_lc (own := [("_law_y", 8)]) (g := (gName 8)) (tt := tYes) (te := (tOp (rIx K) (tOp (rIx K) (tVar 3) (tC (.int 2))) (tOp (rI (fun _ j => 0 < j) fun i j => .int (i % j)) (tCB rInt1 (tCons (tOp (rI0 fun i j => .int (i + j)) (tOp (rIx K) (tOp (rIx K) (tVar 3) (tC (.int 0))) (tVar 6)) (tOp (rI CMul fun i j => .int (i * j)) (tVar 2) (tOp (rIx K) (tOp (rIx K) (tVar 3) (tC (.int 1))) (tVar 8)))) tNil)) (tVar 1)))) rfl scLTable.nd (pi_range1 (by rfl) T.range_ (pa_cons (pv 1) pa_nil)) (blkOk_by (own := [("_law_y", 8)]) (by kernel_rfl)) (fun _ _ _ _ _ => (pg_name (i := 8) scLTable.nd rfl (Or.inl rfl))) (fun _ _ _ _ _ => pts_nil) (fun _ _ _ _ _ => (pe_ix ix_seq (pe_ix ix_seq (pv 3) pe_int (fun _ _ => rfl)) (pe_op op_mod (pe_callTy call_int1 (by rfl) T.int_ (by decide +kernel) (pa_cons (pe_op op_add (pe_ix ix_seq (pe_ix ix_seq (pv 3) pe_int (fun _ _ => rfl)) (pv 6) (fun _ _ => rfl)) (pe_op op_mul (pv 2) (pe_ix ix_seq (pe_ix ix_seq (pv 3) pe_int (fun _ _ => rfl)) (pv 8) (fun _ _ => rfl)))) pa_nil)) (pv 1)) (fun _ _ => rfl))))))
    (pss_cons (ps_for PassesOwn.never rfl (pi_range1 (by rfl) T.range_ (pa_cons (pe_d cLDraw hr (by omega) (by rfl) (pa_cons (pv 0) (pa_cons (pe_op op_mul pe_int (pv 1)) pa_nil))) pa_nil)) (pg_name (i := 5) scLTable.nd rfl (Or.inl rfl)) (pss_one (ps_expr (pe_d cLTurnOver hr (by omega) (by rfl) (pa_cons (pv 0) (pa_cons (pv 4) (pa_cons (pv 1) pa_nil)))))))
    (pss_one (ps_ret (pe_callTy call_tuple_of (by rfl) T.tuple_ (by decide +kernel) (pa_cons (pe_lc (own := [("_law_row", 9)]) (g := (gName 9)) (tt := tYes) (te := (tCB (rTupOf K) (tCons (tVar 9) tNil))) rfl scLTable.nd (pi_list (pv 4)) (blkOk_by (N := NLTable) (sc := (defScope sLTable)) (own := [("_law_row", 9)]) (by decide +kernel)) (fun _ _ _ _ _ => (pg_name (i := 9) scLTable.nd rfl (Or.inl rfl))) (fun _ _ _ _ _ => pts_nil) (fun _ _ _ _ _ => (pe_callTy call_tuple_of (by rfl) T.tuple_ (by decide +kernel) (pa_cons (pv 9) pa_nil)))) pa_nil))))))))
abbrev sLThings : Stmt := topS 49
abbrev NLThings : List Str := ["_law_bag_here", "_law_many", "_law_size", "_law_k"]
theorem scLThings : FnScope NLThings ["_law_bag_here", "_law_many", "_law_size"] (defScope sLThings) := ⟨rfl, rfl, rfl, by decide +kernel, rfl, by decide +kernel, by decide +kernel⟩
def tLThings (K : PySem.W.Frag) (C : Addr) : TS :=
  (tRet (tCB (rTupOf K) (tCons (tLc (iRng1 (tCons (tVar 1) tNil)) (gName 3) tYes (tCall (PLDraw K C) [] L2.E0 (tCons (tVar 0) (tCons (tVar 2) tNil))) [3]) tNil)))
set_option maxHeartbeats 8000000 in
theorem dvLThings {P : Program} {w : World} {K : PySem.W.Frag} {mg : Str → Option Value} {base : Heap} {C aW aP : Addr} {f : Addr} {cdv : Value} {A : Around} {outer : List Env} {s : Shared} {H : Hp} {E : XK} {k : Nat} (T : Bl K w mg C aW aP) {jLDraw : Nat} (cLDraw : Cl P w K mg base jLDraw "_law_draw" (PLDraw K C)) (hjLDraw : jLDraw ≤ k) (hr : Room k (A.deeper (envOfC "_law_things" (defScope sLThings) s.heap.objs.size f cdv))) :
    PSs (cxOf L2.CX0 P w K mg base NLThings "_law_things" (defScope sLThings) f cdv A outer s H E).nox (defBody sLThings) (tLThings K C) :=
  (pss_one (ps_ret (pe_callTy call_tuple_of (by rfl) T.tuple_ (by decide +kernel) (pa_cons (pe_lc (own := [("_law_k", 3)]) (g := (gName 3)) (tt := tYes) (te := (tCall (PLDraw K C) [] L2.E0 (tCons (tVar 0) (tCons (tVar 2) tNil)))) rfl scLThings.nd (pi_range1 (by rfl) T.range_ (pa_cons (pv 1) pa_nil)) (blkOk_by (N := NLThings) (sc := (defScope sLThings)) (own := [("_law_k", 3)]) (by decide +kernel)) (fun _ _ _ _ _ => (pg_name (i := 3) scLThings.nd rfl (Or.inl rfl))) (fun _ _ _ _ _ => pts_nil) (fun _ _ _ _ _ => (pe_d cLDraw hr (by omega) (by rfl) (pa_cons (pv 0) (pa_cons (pv 2) pa_nil))))) pa_nil))))
abbrev sLFormula : Stmt := topS 50
abbrev NLFormula : List Str := ["_law_bag_here", "_law_names", "_law_deep", "_law_word"]
theorem scLFormula : FnScope NLFormula ["_law_bag_here", "_law_names", "_law_deep"] (defScope sLFormula) := ⟨rfl, rfl, rfl, by decide +kernel, rfl, by decide +kernel, by decide +kernel⟩
def tLFormula (K : PySem.W.Frag) (C : Addr) (nLFormula : Nat) : TS :=
  (tSeq (tIfS (tOr (tTest (tOp (rEqD K) (tVar 2) (tC (.int 0)))) (tTest (tOp (rEqD K) (tCall (PLDraw K C) [] L2.E0 (tCons (tVar 0) (tCons (tC (.int 4)) tNil))) (tC (.int 0))))) (tRet (tCall (PLDraw K C) [] L2.E0 (tCons (tVar 0) (tCons (tVar 1) tNil)))) tNext)
    (tSeq (tAsg (tCall (PLPick K C) [] L2.E0 (tCons (tVar 0) (tCons (tLst (tCons (tC (.str "with")) (tCons (tC (.str "behind")) (tCons (tC (.str "ahead")) tNil)))) tNil))) (gName 3))
    (tRet (tTup (tCons (tVar 3) (tCons (tCall (PLFormula K C nLFormula) [] L2.E0 (tCons (tVar 0) (tCons (tVar 1) (tCons (tOp (rI0 fun i j => .int (i - j)) (tVar 2) (tC (.int 1))) tNil)))) (tCons (tCall (PLFormula K C nLFormula) [] L2.E0 (tCons (tVar 0) (tCons (tVar 1) (tCons (tOp (rI0 fun i j => .int (i - j)) (tVar 2) (tC (.int 1))) tNil)))) tNil)))))))
set_option maxHeartbeats 8000000 in
theorem dvLFormula {P : Program} {w : World} {K : PySem.W.Frag} {mg : Str → Option Value} {base : Heap} {C aW aP : Addr} {f : Addr} {cdv : Value} {A : Around} {outer : List Env} {s : Shared} {H : Hp} {E : XK} {k : Nat} {nLFormula : Nat} (T : Bl K w mg C aW aP) {jLDraw : Nat} (cLDraw : Cl P w K mg base jLDraw "_law_draw" (PLDraw K C)) (hjLDraw : jLDraw ≤ k)
    {jLPick : Nat} (cLPick : Cl P w K mg base jLPick "_law_pick" (PLPick K C)) (hjLPick : jLPick ≤ k)
    {jLFormula : Nat} (cLFormula : Cl P w K mg base jLFormula "_law_formula" (PLFormula K C nLFormula)) (hjLFormula : jLFormula ≤ k) (hr : Room k (A.deeper (envOfC "_law_formula" (defScope sLFormula) s.heap.objs.size f cdv))) :
    PSs (cxOf L2.CX0 P w K mg base NLFormula "_law_formula" (defScope sLFormula) f cdv A outer s H E).nox (defBody sLFormula) (tLFormula K C nLFormula) :=
  (pss_cons (ps_if (PW.pt (pw_or (pt_cmpR (op_eqD hr.units) (pv 2) pe_int (nomark _)) (pw_or1 (pt_cmpR (op_eqD hr.units) (pe_d cLDraw hr (by omega) (by rfl) (pa_cons (pv 0) (pa_cons pe_int pa_nil))) pe_int (nomark _))))) (pss_one (ps_ret (pe_d cLDraw hr (by omega) (by rfl) (pa_cons (pv 0) (pa_cons (pv 1) pa_nil))))) pss_nil)
    (pss_cons (ps_set (i := 3) scLFormula.nd rfl (Or.inl rfl) (pe_d cLPick hr (by omega) (by rfl) (pa_cons (pv 0) (pa_cons (pe_lst (pa_cons pe_str (pa_cons pe_str (pa_cons pe_str pa_nil)))) pa_nil))))
    (pss_one (ps_ret (pe_tup (pa_cons (pv 3) (pa_cons (pe_d cLFormula hr (by omega) (by rfl) (pa_cons (pv 0) (pa_cons (pv 1) (pa_cons (pe_op op_sub (pv 2) pe_int) pa_nil)))) (pa_cons (pe_d cLFormula hr (by omega) (by rfl) (pa_cons (pv 0) (pa_cons (pv 1) (pa_cons (pe_op op_sub (pv 2) pe_int) pa_nil)))) pa_nil))))))))
abbrev sLFacts : Stmt := topS 52
abbrev NLFacts : List Str := ["_law_bag_here", "_law_names", "_law_size", "_law_table_here", "_law_things_here", "_law_entries", "_law_turn", "_law_x", "_law_y", "_law_some", "_law_unlike", "_law_k"]
theorem scLFacts : FnScope NLFacts ["_law_bag_here", "_law_names"] (defScope sLFacts) := ⟨rfl, rfl, rfl, by decide +kernel, rfl, by decide +kernel, by decide +kernel⟩
def tLFacts (K : PySem.W.Frag) (C : Addr) (P : Program) (w : World) : TS :=
  (tSeq (tAsg (tOp (rI0 fun i j => .int (i + j)) (tC (.int 2)) (tCall (PLDraw K C) [] L2.E0 (tCons (tVar 0) (tCons (tC (.int 4)) tNil)))) (gName 2))
    (tSeq (tAsg (tTup (tCons (tCall (PLTable K C) [] L2.E0 (tCons (tVar 0) (tCons (tVar 2) tNil))) (tCons (tCall (PLThings K C) [] L2.E0 (tCons (tVar 0) (tCons (tVar 1) (tCons (tVar 2) tNil)))) (tCons (tLst tNil) tNil)))) (gTup K 3 (gCons (gName 3) (gCons (gName 4) (gCons (gName 5) gNil)))))
    (tSeq (tFor (iRng1 (tCons (tCall (PLPick K C) [] L2.E0 (tCons (tVar 0) (tCons (tLst (tCons (tC (.int 0)) (tCons (tC (.int 3)) (tCons (tC (.int 8)) (tCons (tC (.int 30)) tNil))))) tNil))) tNil)) (gName 6) (tSeq (tAsg (tTup (tCons (tCall (PLDraw K C) [] L2.E0 (tCons (tVar 0) (tCons (tVar 1) tNil))) (tCons (tCall (PLDraw K C) [] L2.E0 (tCons (tVar 0) (tCons (tVar 1) tNil))) tNil))) (gTup K 2 (gCons (gName 7) (gCons (gName 8) gNil))))
    (tSeq (tAsg (tLc (iRng1 (tCons (tVar 1) tNil)) (gName 11) (tTest (tOp (rEqD K) (tOp (rIx K) (tVar 4) (tVar 11)) (tOp (rIx K) (tOp (rIx K) (tVar 3) (tOp (rIx K) (tVar 4) (tVar 7))) (tOp (rIx K) (tVar 4) (tVar 8))))) (tVar 11) [11]) (gName 9))
    (tDrop (tBM K "list" rAppend (tVar 5) (tCons (tTup (tCons (tVar 7) (tCons (tVar 8) (tCons (tCall (PLPick K C) [] L2.E0 (tCons (tVar 0) (tCons (tOp rCat (tVar 9) (tOp rRep (tLst (tCons (tCall (PLDraw K C) [] L2.E0 (tCons (tVar 0) (tCons (tVar 1) tNil))) tNil)) (tCB rInt1 (tCons (tOrV (tOp (rEqD K) (tVar 9) (tLst tNil)) (tOp (rEqD K) (tCall (PLDraw K C) [] L2.E0 (tCons (tVar 0) (tCons (tC (.int 6)) tNil))) (tC (.int 0)))) tNil)))) tNil))) tNil)))) tNil))))))
    (tSeq (tAsg (tLst tNil) (gName 10))
    (tSeq (tFor (iRng1 (tCons (tCall (PLDraw K C) [] L2.E0 (tCons (tVar 0) (tCons (tC (.int 5)) tNil))) tNil)) (gName 6) (tSeq (tAsg (tTup (tCons (tCall (PLDraw K C) [] L2.E0 (tCons (tVar 0) (tCons (tVar 1) tNil))) (tCons (tCall (PLDraw K C) [] L2.E0 (tCons (tVar 0) (tCons (tVar 1) tNil))) tNil))) (gTup K 2 (gCons (gName 7) (gCons (gName 8) gNil))))
    (tIfS (tTest (tOp (rNeD K) (tOp (rIx K) (tVar 4) (tVar 7)) (tOp (rIx K) (tVar 4) (tVar 8)))) (tDrop (tBM K "list" rAppend (tVar 10) (tCons (tTup (tCons (tCB rMin2 (tCons (tVar 7) (tCons (tVar 8) tNil))) (tCons (tCB rMax2 (tCons (tVar 7) (tCons (tVar 8) tNil))) tNil))) tNil))) tNext)))
    (tRet (tTup (tCons (tVar 1) (tCons (tSl (rSlA K) (tCB (rTupOf K) (tCons (tCB (rSortedT K P w) (tCons (tCB (rSetOfT K P w) (tCons (tVar 5) tNil)) tNil)) tNil)) tNoPart (tPart (tC (.int 10)))) (tCons (tCB (rTupOf K) (tCons (tCB (rSortedT K P w) (tCons (tCB (rSetOfT K P w) (tCons (tVar 10) tNil)) tNil)) tNil)) tNil))))))))))
set_option maxHeartbeats 8000000 in
theorem dvLFacts {P : Program} {w : World} {K : PySem.W.Frag} {mg : Str → Option Value} {base : Heap} {C aW aP : Addr} {f : Addr} {cdv : Value} {A : Around} {outer : List Env} {s : Shared} {H : Hp} {E : XK} {k : Nat} (T : Bl K w mg C aW aP) {jLDraw : Nat} (cLDraw : Cl P w K mg base jLDraw "_law_draw" (PLDraw K C)) (hjLDraw : jLDraw ≤ k)
    {jLPick : Nat} (cLPick : Cl P w K mg base jLPick "_law_pick" (PLPick K C)) (hjLPick : jLPick ≤ k)
    {jLTable : Nat} (cLTable : Cl P w K mg base jLTable "_law_table" (PLTable K C)) (hjLTable : jLTable ≤ k)
    {jLThings : Nat} (cLThings : Cl P w K mg base jLThings "_law_things" (PLThings K C)) (hjLThings : jLThings ≤ k) (hr : Room k (A.deeper (envOfC "_law_facts" (defScope sLFacts) s.heap.objs.size f cdv))) :
    PSs (cxOf L2.CX0 P w K mg base NLFacts "_law_facts" (defScope sLFacts) f cdv A outer s H E).nox (defBody sLFacts) (tLFacts K C P w) :=
  (pss_cons (ps_set (i := 2) scLFacts.nd rfl (Or.inl rfl) (pe_op op_add pe_int (pe_d cLDraw hr (by omega) (by rfl) (pa_cons (pv 0) (pa_cons pe_int pa_nil)))))
    (pss_cons (ps_asg (pe_tup (pa_cons (pe_d cLTable hr (by omega) (by rfl) (pa_cons (pv 0) (pa_cons (pv 2) pa_nil))) (pa_cons (pe_d cLThings hr (by omega) (by rfl) (pa_cons (pv 0) (pa_cons (pv 1) (pa_cons (pv 2) pa_nil)))) (pa_cons (pe_lst pa_nil) pa_nil)))) (pg_tup rfl (pgs_cons (pg_name (i := 3) scLFacts.nd rfl (Or.inr rfl)) (pgs_cons (pg_name (i := 4) scLFacts.nd rfl (Or.inr rfl)) (pgs_cons (pg_name (i := 5) scLFacts.nd rfl (Or.inl rfl)) pgs_nil)))))
    (pss_cons (ps_for PassesOwn.never rfl (pi_range1 (by rfl) T.range_ (pa_cons (pe_d cLPick hr (by omega) (by rfl) (pa_cons (pv 0) (pa_cons (pe_lst (pa_cons pe_int (pa_cons pe_int (pa_cons pe_int (pa_cons pe_int pa_nil))))) pa_nil))) pa_nil)) (pg_name (i := 6) scLFacts.nd rfl (Or.inl rfl)) (pss_cons (ps_asg (pe_tup (pa_cons (pe_d cLDraw hr (by omega) (by rfl) (pa_cons (pv 0) (pa_cons (pv 1) pa_nil))) (pa_cons (pe_d cLDraw hr (by omega) (by rfl) (pa_cons (pv 0) (pa_cons (pv 1) pa_nil))) pa_nil))) (pg_tup rfl (pgs_cons (pg_name (i := 7) scLFacts.nd rfl (Or.inr rfl)) (pgs_cons (pg_name (i := 8) scLFacts.nd rfl (Or.inr rfl)) pgs_nil))))
    (pss_cons (ps_setLc (i := 9) (own := [("_law_k", 11)]) (g := (gName 11)) (tt := (tTest (tOp (rEqD K) (tOp (rIx K) (tVar 4) (tVar 11)) (tOp (rIx K) (tOp (rIx K) (tVar 3) (tOp (rIx K) (tVar 4) (tVar 7))) (tOp (rIx K) (tVar 4) (tVar 8)))))) (te := (tVar 11)) rfl scLFacts.nd rfl rfl (sw_true rfl rfl rfl (by decide +kernel)) (pi_range1 (by rfl) T.range_ (pa_cons (pv 1) pa_nil)) (blkOk_by (N := NLFacts) (sc := (defScope sLFacts)) (own := [("_law_k", 11)]) (by decide +kernel)) (fun _ _ _ _ _ => (pg_name (i := 11) scLFacts.nd rfl (Or.inl rfl))) (fun _ _ _ _ _ => (pts_one (pt_cmpR (op_eqD hr.units) (pe_ix ix_seq (pv 4) (pv 11) (fun _ _ => rfl)) (pe_ix ix_seq (pe_ix ix_seq (pv 3) (pe_ix ix_seq (pv 4) (pv 7) (fun _ _ => rfl)) (fun _ _ => rfl)) (pe_ix ix_seq (pv 4) (pv 8) (fun _ _ => rfl)) (fun _ _ => rfl)) (nomark _)))) (fun _ _ _ _ _ => (pv 11)))
    (pss_one (ps_expr (pe_bm PySem.F.plainAttrs_list PySem.F.slot_list_append PySem.F.type_list_append mt_append (pv 5) (pa_cons (pe_tup (pa_cons (pv 7) (pa_cons (pv 8) (pa_cons (pe_d cLPick hr (by omega) (by rfl) (pa_cons (pv 0) (pa_cons (pe_op op_cat (pv 9) (pe_op op_rep (pe_lst (pa_cons (pe_d cLDraw hr (by omega) (by rfl) (pa_cons (pv 0) (pa_cons (pv 1) pa_nil))) pa_nil)) (pe_callTy call_int1 (by rfl) T.int_ (by decide +kernel) (pa_cons (pe_or (pe_cmpR (op_eqD hr.units) (pv 9) (pe_lst pa_nil) (nomark _)) (pe_one (pe_cmpR (op_eqD hr.units) (pe_d cLDraw hr (by omega) (by rfl) (pa_cons (pv 0) (pa_cons pe_int pa_nil))) pe_int (nomark _)))) pa_nil)))) pa_nil))) pa_nil)))) pa_nil)))))))
    (pss_cons (ps_set (i := 10) scLFacts.nd rfl (Or.inl rfl) (pe_lst pa_nil))
    (pss_cons (ps_for PassesOwn.never rfl (pi_range1 (by rfl) T.range_ (pa_cons (pe_d cLDraw hr (by omega) (by rfl) (pa_cons (pv 0) (pa_cons pe_int pa_nil))) pa_nil)) (pg_name (i := 6) scLFacts.nd rfl (Or.inl rfl)) (pss_cons (ps_asg (pe_tup (pa_cons (pe_d cLDraw hr (by omega) (by rfl) (pa_cons (pv 0) (pa_cons (pv 1) pa_nil))) (pa_cons (pe_d cLDraw hr (by omega) (by rfl) (pa_cons (pv 0) (pa_cons (pv 1) pa_nil))) pa_nil))) (pg_tup rfl (pgs_cons (pg_name (i := 7) scLFacts.nd rfl (Or.inr rfl)) (pgs_cons (pg_name (i := 8) scLFacts.nd rfl (Or.inr rfl)) pgs_nil))))
    (pss_one (ps_if (pt_cmpR (op_neD hr.units) (pe_ix ix_seq (pv 4) (pv 7) (fun _ _ => rfl)) (pe_ix ix_seq (pv 4) (pv 8) (fun _ _ => rfl)) (nomark _)) (pss_one (ps_expr (pe_bm PySem.F.plainAttrs_list PySem.F.slot_list_append PySem.F.type_list_append mt_append (pv 10) (pa_cons (pe_tup (pa_cons (pe_callB (call_min2 rfl) (by rfl) T.min_ (by decide +kernel) (pa_cons (pv 7) (pa_cons (pv 8) pa_nil))) (pa_cons (pe_callB (call_max2 rfl) (by rfl) T.max_ (by decide +kernel) (pa_cons (pv 7) (pa_cons (pv 8) pa_nil))) pa_nil))) pa_nil)))) pss_nil))))
    (pss_one (ps_ret (pe_tup (pa_cons (pv 1) (pa_cons (pe_slice sl_tupA (pe_callTy call_tuple_of (by rfl) T.tuple_ (by decide +kernel) (pa_cons (pe_callB (cr_sortedT rfl) (by rfl) T.sorted_ (by decide +kernel) (pa_cons (pe_callTy (cr_setOfT rfl hr.units) (by rfl) T.set_ (by decide +kernel) (pa_cons (pv 5) pa_nil)) pa_nil)) pa_nil)) po_none (po_some pe_int)) (pa_cons (pe_callTy call_tuple_of (by rfl) T.tuple_ (by decide +kernel) (pa_cons (pe_callB (cr_sortedT rfl) (by rfl) T.sorted_ (by decide +kernel) (pa_cons (pe_callTy (cr_setOfT rfl hr.units) (by rfl) T.set_ (by decide +kernel) (pa_cons (pv 10) pa_nil)) pa_nil)) pa_nil)) pa_nil)))))))))))
abbrev sLGoodFacts : Stmt := topS 58
abbrev NLGoodFacts : List Str := ["_law_bag_here", "_law_names", "_law_facts_here", "_law_turn"]
theorem scLGoodFacts : FnScope NLGoodFacts ["_law_bag_here", "_law_names"] (defScope sLGoodFacts) := ⟨rfl, rfl, rfl, by decide +kernel, rfl, by decide +kernel, by decide +kernel⟩
def tLGoodFacts (K : PySem.W.Frag) (C : Addr) : TS :=
  (tSeq (tAsg (tCall (PLFacts K C) [] L2.E0 (tCons (tVar 0) (tCons (tVar 1) tNil))) (gName 2))
    (tSeq (tFor (iRng1 (tCons (tC (.int 20)) tNil)) (gName 3) (tSeq (tIfS (tTest (tOp rIsNo (tCall (PLClash K C) [] L2.E0 (tCons (tVar 2) tNil)) (tC .non))) tBreak tNext)
    (tAsg (tTup (tCons (tVar 1) (tCons (tOp (rIx K) (tVar 2) (tC (.int 1))) (tCons (tSl (rSlA K) (tOp (rIx K) (tVar 2) (tC (.int 2))) (tPart (tC (.int 1))) tNoPart) tNil)))) (gName 2))))
    (tRet (tVar 2))))
set_option maxHeartbeats 8000000 in
theorem dvLGoodFacts {P : Program} {w : World} {K : PySem.W.Frag} {mg : Str → Option Value} {base : Heap} {C aW aP : Addr} {f : Addr} {cdv : Value} {A : Around} {outer : List Env} {s : Shared} {H : Hp} {E : XK} {k : Nat} (T : Bl K w mg C aW aP) {jLFacts : Nat} (cLFacts : Cl P w K mg base jLFacts "_law_facts" (PLFacts K C)) (hjLFacts : jLFacts ≤ k)
    {jLClash : Nat} (cLClash : Cl P w K mg base jLClash "_law_clash" (PLClash K C)) (hjLClash : jLClash ≤ k) (hr : Room k (A.deeper (envOfC "_law_good_facts" (defScope sLGoodFacts) s.heap.objs.size f cdv))) :
    PSs (cxOf L2.CX0 P w K mg base NLGoodFacts "_law_good_facts" (defScope sLGoodFacts) f cdv A outer s H E).nox (defBody sLGoodFacts) (tLGoodFacts K C) :=
  (pss_cons (ps_set (i := 2) scLGoodFacts.nd rfl (Or.inl rfl) (pe_d cLFacts hr (by omega) (by rfl) (pa_cons (pv 0) (pa_cons (pv 1) pa_nil))))
    (pss_cons (ps_for PassesOwn.never rfl (pi_range1 (by rfl) T.range_ (pa_cons pe_int pa_nil)) (pg_name (i := 3) scLGoodFacts.nd rfl (Or.inl rfl)) (pss_cons (ps_if (pt_cmpR op_isN (pe_d cLClash hr (by omega) (by rfl) (pa_cons (pv 2) pa_nil)) pe_non (nomark _)) (pss_one ps_break) pss_nil)
    (pss_one (ps_set (i := 2) scLGoodFacts.nd rfl (Or.inl rfl) (pe_tup (pa_cons (pv 1) (pa_cons (pe_ix ix_seq (pv 2) pe_int (fun _ _ => rfl)) (pa_cons (pe_slice sl_tupA (pe_ix ix_seq (pv 2) pe_int (fun _ _ => rfl)) (po_some pe_int) po_none) pa_nil))))))))
    (pss_one (ps_ret (pv 2)))))
abbrev sLNear : Stmt := topS 67
abbrev NLNear : List Str := ["_law_bag_here", "_law_formula_here", "_law_names", "_law_way", "_law_own", "_law_some"]
theorem scLNear : FnScope NLNear ["_law_bag_here", "_law_formula_here", "_law_names"] (defScope sLNear) := ⟨rfl, rfl, rfl, by decide +kernel, rfl, by decide +kernel, by decide +kernel⟩
def tLNear (K : PySem.W.Frag) (C : Addr) (nLFormula : Nat) (nLNear : Nat) : TS :=
  (tSeq (tPar 3 4 (tCons (tCall (PLDraw K C) [] L2.E0 (tCons (tVar 0) (tCons (tC (.int 8)) tNil))) (tCons (tCall (PLDraw K C) [] L2.E0 (tCons (tVar 0) (tCons (tVar 2) tNil))) tNil)))
    (tSeq (tAsg (tLst (tCons (tTup (tCons (tC (.str "with")) (tCons (tVar 4) (tCons (tTup (tCons (tC (.str "behind")) (tCons (tVar 4) (tCons (tVar 1) tNil)))) tNil)))) (tCons (tTup (tCons (tC (.str "with")) (tCons (tTup (tCons (tC (.str "ahead")) (tCons (tVar 4) (tCons (tVar 1) tNil)))) (tCons (tVar 4) tNil)))) (tCons (tTup (tCons (tC (.str "behind")) (tCons (tVar 4) (tCons (tTup (tCons (tC (.str "with")) (tCons (tVar 4) (tCons (tVar 1) tNil)))) tNil)))) tNil)))) (gName 5))
    (tSeq (tAsg (tOp rCat (tVar 5) (tLst (tCons (tTup (tCons (tC (.str "behind")) (tCons (tTup (tCons (tC (.str "ahead")) (tCons (tVar 1) (tCons (tVar 4) tNil)))) (tCons (tVar 4) tNil)))) (tCons (tTup (tCons (tC (.str "ahead")) (tCons (tVar 4) (tCons (tTup (tCons (tC (.str "with")) (tCons (tVar 1) (tCons (tVar 4) tNil)))) tNil)))) tNil)))) (gName 5))
    (tSeq (tAsg (tOp rCat (tVar 5) (tLst (tCons (tTup (tCons (tC (.str "ahead")) (tCons (tTup (tCons (tC (.str "behind")) (tCons (tVar 1) (tCons (tVar 4) tNil)))) (tCons (tVar 4) tNil)))) tNil))) (gName 5))
    (tSeq (tIfS (tTest (tOp (rI0 fun i j => .bl (decide (i < j))) (tVar 3) (tC (.int 6)))) (tRet (tOp (rIx K) (tVar 5) (tVar 3))) tNext)
    (tSeq (tIfS (tOr (tB (tCB (rIsi K) (tCons (tVar 1) (tCons (tC (.ty "int")) tNil)))) (tTest (tOp (rEqD K) (tVar 3) (tC (.int 6))))) (tRet (tCall (PLFormula K C nLFormula) [] L2.E0 (tCons (tVar 0) (tCons (tVar 2) (tCons (tC (.int 2)) tNil))))) tNext)
    (tRet (tTup (tCons (tOp (rIx K) (tVar 1) (tC (.int 0))) (tCons (tCall (PLNear K C nLNear) [] L2.E0 (tCons (tVar 0) (tCons (tOp (rIx K) (tVar 1) (tC (.int 1))) (tCons (tVar 2) tNil)))) (tCons (tOp (rIx K) (tVar 1) (tC (.int 2))) tNil)))))))))))
set_option maxHeartbeats 8000000 in
theorem dvLNear {P : Program} {w : World} {K : PySem.W.Frag} {mg : Str → Option Value} {base : Heap} {C aW aP : Addr} {f : Addr} {cdv : Value} {A : Around} {outer : List Env} {s : Shared} {H : Hp} {E : XK} {k : Nat} {nLFormula : Nat} {nLNear : Nat} (T : Bl K w mg C aW aP) {jLDraw : Nat} (cLDraw : Cl P w K mg base jLDraw "_law_draw" (PLDraw K C)) (hjLDraw : jLDraw ≤ k)
    {jLFormula : Nat} (cLFormula : Cl P w K mg base jLFormula "_law_formula" (PLFormula K C nLFormula)) (hjLFormula : jLFormula ≤ k)
    {jLNear : Nat} (cLNear : Cl P w K mg base jLNear "_law_near" (PLNear K C nLNear)) (hjLNear : jLNear ≤ k) (hr : Room k (A.deeper (envOfC "_law_near" (defScope sLNear) s.heap.objs.size f cdv))) :
    PSs (cxOf L2.CX0 P w K mg base NLNear "_law_near" (defScope sLNear) f cdv A outer s H E).nox (defBody sLNear) (tLNear K C nLFormula nLNear) :=
  (pss_cons (ps_par (i := 3) (j := 4) rfl scLNear.nd rfl rfl (by decide) rfl rfl (pa_cons (pe_d cLDraw hr (by omega) (by rfl) (pa_cons (pv 0) (pa_cons pe_int pa_nil))) (pa_cons (pe_d cLDraw hr (by omega) (by rfl) (pa_cons (pv 0) (pa_cons (pv 2) pa_nil))) pa_nil)) (by rfl))
    (pss_cons (ps_set (i := 5) scLNear.nd rfl (Or.inl rfl) (pe_lst (pa_cons (pe_tup (pa_cons pe_str (pa_cons (pv 4) (pa_cons (pe_tup (pa_cons pe_str (pa_cons (pv 4) (pa_cons (pv 1) pa_nil)))) pa_nil)))) (pa_cons (pe_tup (pa_cons pe_str (pa_cons (pe_tup (pa_cons pe_str (pa_cons (pv 4) (pa_cons (pv 1) pa_nil)))) (pa_cons (pv 4) pa_nil)))) (pa_cons (pe_tup (pa_cons pe_str (pa_cons (pv 4) (pa_cons (pe_tup (pa_cons pe_str (pa_cons (pv 4) (pa_cons (pv 1) pa_nil)))) pa_nil)))) pa_nil)))))
    (pss_cons (ps_set (i := 5) scLNear.nd rfl (Or.inl rfl) (pe_op op_cat (pv 5) (pe_lst (pa_cons (pe_tup (pa_cons pe_str (pa_cons (pe_tup (pa_cons pe_str (pa_cons (pv 1) (pa_cons (pv 4) pa_nil)))) (pa_cons (pv 4) pa_nil)))) (pa_cons (pe_tup (pa_cons pe_str (pa_cons (pv 4) (pa_cons (pe_tup (pa_cons pe_str (pa_cons (pv 1) (pa_cons (pv 4) pa_nil)))) pa_nil)))) pa_nil)))))
    (pss_cons (ps_set (i := 5) scLNear.nd rfl (Or.inl rfl) (pe_op op_cat (pv 5) (pe_lst (pa_cons (pe_tup (pa_cons pe_str (pa_cons (pe_tup (pa_cons pe_str (pa_cons (pv 1) (pa_cons (pv 4) pa_nil)))) (pa_cons (pv 4) pa_nil)))) pa_nil))))
    (pss_cons (ps_if (pt_cmpR op_lt (pv 3) pe_int (nomark _)) (pss_one (ps_ret (pe_ix ix_seq (pv 5) (pv 3) (fun _ _ => rfl)))) pss_nil)
    (pss_cons (ps_if (PW.pt (pw_or (pt_val (pe_callB call_isi (by rfl) T.isinstance_ (by decide +kernel) (pa_cons (pv 1) (pa_cons (pe_bltn (v := .ty "int") (by rfl) T.int_ boot_int rfl) pa_nil)))) (pw_or1 (pt_cmpR (op_eqD hr.units) (pv 3) pe_int (nomark _))))) (pss_one (ps_ret (pe_d cLFormula hr (by omega) (by rfl) (pa_cons (pv 0) (pa_cons (pv 2) (pa_cons pe_int pa_nil)))))) pss_nil)
    (pss_one (ps_ret (pe_tup (pa_cons (pe_ix ix_seq (pv 1) pe_int (fun _ _ => rfl)) (pa_cons (pe_d cLNear hr (by omega) (by rfl) (pa_cons (pv 0) (pa_cons (pe_ix ix_seq (pv 1) pe_int (fun _ _ => rfl)) (pa_cons (pv 2) pa_nil)))) (pa_cons (pe_ix ix_seq (pv 1) pe_int (fun _ _ => rfl)) pa_nil))))))))))))
end RD

end
section
set_option linter.all false
set_option maxRecDepth 100000
set_option maxHeartbeats 4000000
/-! B1: draws. -/
namespace RD
open PySem PySem.Spec PyProof.Rows L2
section
variable {P : Program} {w : World} {K : PySem.W.Frag} {mg : Str → Option Value} {base : Heap} {C aW aP : Addr} {m : Option Addr} {r : Rho} {ta tb te : TE} {tu : TS} {O : Out} {wi : TI} {g : TG} {t : TT} {tz : TS} {b : Addr}
theorem pb_cl {α : Type} {bg : α → Addr} {pre : α → Prop} {args : α → List Sh} {res : α → Sh → Prop} {x : Str} {st : Stmt} {N ps : List Str} {k : Nat} (d : Df K mg x st ps) (sc : FnScope N ps (defScope st)) (hl : ∀ a, (args a).length + 1 = ps.length) (hi : ∀ a, (args a).all Sh.pure = true)
    (body : ∀ (f : Addr) (cdv : Value) (A : Around) (outer : List Env) (s : Shared) (H : Hp) (E : XK) (a : α), Room k (A.deeper (envOfC x (defScope st) s.heap.objs.size f cdv)) → pre a →
      ∃ t, PSs (cxOf L2.CX0 P w K mg base N x (defScope st) f cdv A outer s H E).nox (defBody st) t ∧ DS K C (some (bg a)) t (rho0 N (.bag (bg a) :: args a)) { rt := res a }) : Cl P w K mg base (k + 1) x (Pb K C bg pre args res) := by
  obtain ⟨f, fd, F, hm, bi⟩ := d.ex
  refine ⟨f, fd, ps, pr_fn F sc (fun a => by rw [List.length_cons]; exact hl a) (fun a s hs => ?_) (fun a b hb => ?_) (fun a b e => ?_) (body f), hm, F.kp, bi⟩
  · rcases List.mem_cons.mp hs with z | z
    · rw [z] <;> rfl
    · exact pure_im (List.all_eq_true.mp (hi a) s z)
  · rcases List.mem_cons.mp hb with z | z
    · cases z
      rfl
    · have := List.all_eq_true.mp (hi a) _ z
      cases this
  · cases e
    exact List.mem_cons_self
theorem er_draw {i : Nat} {lim : Nat} (h0 : r[i]? = some (some (.bag b))) (h : EvX K C (some b) te r (fun z => z = .d (natD lim))) (h1 : 1 ≤ lim) (h2 : lim ≤ 100000) : EvX K C (some b) (tCall (PLDraw K C) [] L2.E0 (tCons (tVar i) (tCons te tNil))) r (fun z => ∃ d, z = .d (natD d) ∧ d < lim) :=
  er_call1 (b, lim) (ea_cons (er_var h0 rfl) (ea_cons h ea_nil)) ⟨h1, h2⟩ (fun s e => e) (.inr rfl)
theorem er_pick1 {i : Nat} {xs : List PyData} (h0 : r[i]? = some (some (.bag b))) (h : EvX K C (some b) te r (fun z => z = .d (.list xs))) (h1 : xs ≠ []) (h2 : xs.length ≤ 100000) : EvX K C (some b) (tCall (PLPick K C) [] L2.E0 (tCons (tVar i) (tCons te tNil))) r (fun z => ∃ x, z = .d x ∧ x ∈ xs) :=
  er_call1 (b, xs) (ea_cons (er_var h0 rfl) (ea_cons h ea_nil)) ⟨h1, h2⟩ (fun s e => e) (.inr rfl)
theorem bag_stp {S H : Hp} {o : HO} (hs : Same S H) (hS : S b = none) (hH : H b ≠ none) (hb : BagOk (upd H b o) b) : Stp (some b) S H S (upd H b o) := by
  refine ⟨Same.refl S, fun a u e => ?_, fun a u hm e => ?_, fun _ _ => rfl, fun a e => ?_, fun c hc _ => ?_⟩
  · rw [upd_ne (ne_of_none e hS)]
    exact hs a u e
  · rw [upd_ne (fun z : a = b => hm (by rw [z]))]
    exact e
  · by_cases z : a = b
    · rw [z, upd_same]
      exact fun y => nomatch y
    · rw [upd_ne z]
      exact e
  · cases hc
    exact hb
theorem upd_upd {H : Hp} {a : Addr} {o o' : HO} : upd (upd H a o) a o' = upd H a o' := by
  funext c
  unfold upd
  by_cases h : c = a
  · rw [if_pos h, if_pos h]
  · rw [if_neg h, if_neg h, if_neg h]
theorem cl_LDraw (T : Bl K w mg C aW aP) (d : Df K mg "_law_draw" sLDraw ["_law_bag_here", "_law_limit"]) : Cl P w K mg base 1 "_law_draw" (PLDraw K C) := by
  obtain ⟨f, fd, F, hm, bi⟩ := d.ex
  refine ⟨f, fd, _, F.ok scLDraw (fun vs H Q E h => ?_) (fun cdv A outer s H vs Q E hr h => ?_), hm, F.kp, bi⟩
  · obtain ⟨a, S, _, _, hv, _⟩ := h
    rw [paired_len hv] <;> rfl
  · obtain ⟨⟨b, lim⟩, S, hs, ⟨l1, l2⟩, hv, q⟩ := h
    refine ⟨_, dvLDraw T hr, ?_⟩
    cases hv with
    | cons h1 ht =>
      cases ht with
      | cons h2 hn =>
        cases hn
        obtain ⟨rfl, hS, g, s0, n, hb, hs0, hs1⟩ := h1
        have h2' : Dp K S _ (natD lim) := h2
        cases h2'
        have l1 : 1 ≤ lim := l1
        have l2 : lim ≤ 100000 := l2
        have fin : ∀ (d : Int) (g' s' n' : Int), 0 ≤ d → d < lim → 0 ≤ s' → s' < 2305843009213693952 → Q (.int d) (upd H b (.lst [.int g', .int s', .int n'])) := fun d g' s' n' d0 d1 k0 k1 => by
          refine q (.int d) (.d (natD d.toNat)) S _ ⟨d.toNat, rfl, show d.toNat < lim by omega⟩ (bag_stp hs hS (by rw [hb]; exact fun z => nomatch z) ⟨g', s', n', upd_same, k0, k1⟩) ?_
          have e : d = (d.toNat : Int) := by omega
          show Dp K S (.int d) (.int (d.toNat : Int))
          rw [← e]
          exact .int d
        refine ⟨.ref b, rfl, .inl ⟨b, _, 0, .int g, rfl, rfl, .inl (.inl hb), rfl, g, 0, rfl, rfl, decide (0 < g), rfl, ?_⟩⟩
        by_cases hg : 0 < g
        · rw [decide_eq_true hg]
          refine iteT ?_
          refine ⟨.ref b, rfl, .inl ⟨b, _, 0, .int g, rfl, rfl, .inl (.inl hb), rfl, .inl ⟨g, rfl, .int lim, rfl, g, lim, rfl, rfl, (show (0 : Int) < lim by omega), ?_⟩⟩⟩
          refine ⟨.ref b, rfl, .inl ⟨b, _, 0, .int g, rfl, rfl, .inl (.inl hb), rfl, .int lim, rfl, g, lim, rfl, rfl, ⟨(show (0 : Int) < lim by omega), (show (lim : Int) < 1073741824 by omega)⟩, ?_⟩⟩
          refine ⟨.ref b, rfl, b, _, 0, 0, rfl, rfl, hb, rfl, ?_⟩
          refine ⟨.int (g % lim), rfl, ?_⟩
          exact fin (g % lim) (g / lim) s0 n (Int.emod_nonneg _ (by omega)) (Int.emod_lt_of_pos _ (by omega)) hs0 hs1
        · rw [decide_eq_false hg]
          refine iteF ?_
          have bd : ∀ x : Int, 0 ≤ x → x < 2305843009213693952 → -(2 ^ 64) < x ∧ x < 2 ^ 64 := fun x h1 h2 => by
            constructor <;> omega
          refine ⟨.ref b, rfl, .inl ⟨b, _, 2, .int n, rfl, rfl, .inl (.inl hb), rfl, n, 1, rfl, rfl, .ref b, rfl, b, _, 2, 2, rfl, rfl, hb, rfl, ?_⟩⟩
          have hb2 : upd H b (.lst [.int g, .int s0, .int (n + 1)]) b = some (.lst [.int g, .int s0, .int (n + 1)]) := upd_same
          refine ⟨.ref b, rfl, .inl ⟨b, _, 1, .int s0, rfl, rfl, .inl (.inl hb2), rfl, s0, 2862933555777941757, rfl, rfl, .inl (bd s0 hs0 hs1), ?_⟩⟩
          refine ⟨.ref b, rfl, .inl ⟨b, _, 2, .int (n + 1), rfl, rfl, .inl (.inl hb2), rfl, 3037000493, n + 1, rfl, rfl, .inl (by constructor <;> decide), _, _, rfl, rfl, ?_⟩⟩
          refine ⟨.int (s0 * 2862933555777941757 + 3037000493 * (n + 1)), rfl, .inl ⟨_, rfl, _, _, rfl, rfl, (show (0 : Int) < 2305843009213693951 by decide), .ref b, rfl, b, _, 1, 1, rfl, rfl, hb2, rfl, ?_⟩⟩
          have k0 : 0 ≤ (s0 * 2862933555777941757 + 3037000493 * (n + 1)) % 2305843009213693951 := Int.emod_nonneg _ (by decide)
          have k1 : (s0 * 2862933555777941757 + 3037000493 * (n + 1)) % 2305843009213693951 < 2305843009213693951 := Int.emod_lt_of_pos _ (by decide)
          refine ⟨.ref b, rfl, .inl ⟨b, _, 1, .int ((s0 * 2862933555777941757 + 3037000493 * (n + 1)) % 2305843009213693951), rfl, rfl, .inl (.inl upd_same), rfl, .ref b, rfl, .inl ⟨b, _, 1, .int ((s0 * 2862933555777941757 + 3037000493 * (n + 1)) % 2305843009213693951), rfl, rfl, .inl (.inl upd_same), rfl, _, _, rfl, rfl, .inl (bd _ k0 (by omega)), .inl ⟨_, rfl, _, _, rfl, rfl, (show (0 : Int) < 2305843009213693921 by decide), _, _, rfl, rfl, ⟨(show (0 : Int) < 4096 by decide), (show (4096 : Int) < 1073741824 by decide)⟩, .int lim, rfl, _, lim, rfl, rfl, (show (0 : Int) < lim by omega), ?_⟩⟩⟩⟩
          rw [upd_upd]
          exact fin _ g _ (n + 1) (Int.emod_nonneg _ (by omega)) (Int.emod_lt_of_pos _ (by omega)) k0 (by omega)
theorem cl_LPick (T : Bl K w mg C aW aP) (cD : Cl P w K mg base 1 "_law_draw" (PLDraw K C)) (d : Df K mg "_law_pick" sLPick ["_law_bag_here", "_law_items"]) : Cl P w K mg base 2 "_law_pick" (PLPick K C) :=
  pb_cl d scLPick (fun _ => rfl) (fun _ => rfl) fun f cdv A outer s H E a hr hp => ⟨_, dvLPick T cD (by omega) hr, by
    obtain ⟨b, xs⟩ := a
    obtain ⟨h1, h2⟩ := hp
    have h1 : xs ≠ [] := h1
    have hl : 0 < xs.length := List.length_pos_iff.mpr h1
    refine ds_ret (P := fun s => ∃ x, s = .d x ∧ x ∈ xs) (er_opX (P1 := fun z => z = .d (.list xs)) (er_var rfl rfl) (er_draw (lim := xs.length) rfl (er_cb (ea_cons (er_var rfl rfl) ea_nil) rxa_lenL) hl h2) (fun s e => by rw [e] <;> rfl) fun s1 s2 e ⟨d, e2, hd⟩ => ?_) fun s e => e
    subst e e2
    intro S H v w hs hv hw Q q
    exact rx_ixL (i := (d : Int)) (by rw [atI_nat hd, List.getElem?_eq_getElem hd]) S H v w hs hv hw Q fun v s S' H' e => q v s S' H' ⟨_, e, List.getElem_mem hd⟩⟩
theorem ds_for0 {O : Out} {wi : TI} {ds : List PyData} (h : ItX K C m wi r ds) (Pv : Nat → Rho → Prop) (h0 : Pv 0 r)
    (hs : ∀ (i : Nat) d r', ds[i]? = some d → Pv i r' → ∃ r2 js, GT K C m g (.d d) r' r2 js ∧ DS K C m tu r2 { O with nx := Pv (i + 1), ct := Pv (i + 1), bk := fun r3 => DS K C m tz r3 O }) (hd : ∀ r', Pv ds.length r' → DS K C m tz r' O) : DS K C m (tSeq (tFor wi g tu) tz) r O := ds_for h Pv h0 hs hd
theorem divN_0 : ∀ k a, divN k a 0 = a
  | 0, _ => rfl
  | k + 1, a => if_pos rfl
theorem cl_LDivisor (T : Bl K w mg C aW aP) (d : Df K mg "_law_divisor" sLDivisor ["_law_one", "_law_other"]) : Cl P w K mg base 1 "_law_divisor" (PLDivisor K C) :=
  pd_cl d scLDivisor (fun _ => rfl) (fun _ => rfl) fun f cdv A outer s H E a hr hp => ⟨_, dvLDivisor T hr, by
    obtain ⟨x, y⟩ := a
    refine ds_for (ds := rangeD 0 200) (it_rangeN (n := 200) (er_int 200) (by decide)) (fun i r => ∃ u v z, r = [some (.d (natD u)), some (.d (natD v)), z] ∧ divN (200 - i) u v = divN 200 x y) ⟨x, y, none, rfl, rfl⟩ (fun i d r' hd ⟨u, v, z, er, hv⟩ => ?_) fun r' ⟨u, v, z, er, hv⟩ => ?_
    · subst er
      obtain ⟨rfl, hi⟩ := range_at hd
      obtain ⟨k, ek⟩ : ∃ k, 200 - i = k + 1 := ⟨200 - i - 1, by omega⟩
      have ek2 : 200 - (i + 1) = k := by omega
      rw [ek] at hv
      refine ⟨_, _, gt_nameD, ds_if (et_eqN (b := 0) (er_var rfl rfl) (er_int 0)) (fun e => ds_out (ds_break ?_)) fun e => ds_skip ?_⟩
      · have e := of_decide_eq_true e
        refine ds_ret (er_var rfl rfl) fun s es => ?_
        rw [es]
        show _ = Sh.d (natD (divN 200 x y))
        rw [← hv, e, divN_0]
      · have e := of_decide_eq_false e
        refine ds_last (ds_par2 (s1 := .d (natD v)) (s2 := .d (natD (u % v))) (ea_cons (er_var rfl rfl) (ea_cons ?_ ea_nil)) rfl rfl (fun _ z => nomatch z) (fun _ z => nomatch z) (ds_next ⟨v, u % v, _, rfl, ?_⟩))
        · refine (er_op (er_cb (ea_cons (er_var (s := .d (natD u)) rfl rfl) ea_nil) rxa_int) (er_var (s := .d (natD v)) rfl rfl) (rx_I (x := .int ((u : Int) % (v : Int))) (show (0 : Int) < (v : Int) by omega) fun S => .int _)).is ?_
          show Sh.d (.int ((u : Int) % (v : Int))) = Sh.d (.int ((u % v : Nat) : Int))
          rw [Int.natCast_emod]
        · rw [ek2, ← hv]
          exact (if_neg e).symm
    · subst er
      refine ds_ret (er_var rfl rfl) fun s es => ?_
      rw [es]
      show _ = Sh.d (natD (divN 200 x y))
      rw [range_len] at hv
      rw [← hv] <;> rfl⟩
end
end RD

end
section
set_option linter.all false
set_option maxRecDepth 100000
set_option maxHeartbeats 4000000
/-! B2: turned, things, formula, near. -/
namespace RD
open PySem PySem.Spec PyProof.Rows L2
theorem perm_erase {α : Type} {l : List α} {d : Nat} (h : d < l.length) : (l[d] :: l.eraseIdx d).Perm l := by
  rw [List.eraseIdx_eq_take_drop_succ]
  refine List.perm_middle.symm.trans ?_
  rw [List.getElem_cons_drop h, List.take_append_drop]
section
variable {P : Program} {w : World} {K : PySem.W.Frag} {mg : Str → Option Value} {base : Heap} {C aW aP : Addr} {m : Option Addr} {r : Rho} {ta tb te : TE} {tu : TS} {O : Out} {wi : TI} {g : TG} {t : TT} {tz : TS} {b : Addr}
/-- a, b = a new list, a new list -/
theorem ds_par2O {i j : Nat} {t1 t2 : TE} {R1 R2 : List PyData → Prop} (h1 : EvO K C m t1 r R1) (h2 : EvO K C m t2 r R2) (k : ∀ l1 l2 xs ys, R1 xs → R2 ys → DS K C m tz ((r.set i (some (.own l1 xs))).set j (some (.own l2 ys))) O) : DS K C m (tSeq (tPar i j (tCons t1 (tCons t2 tNil))) tz) r O := fun S0 H0 σ S H D st k1 k2 k3 k4 => by
  show t1 σ H _
  refine h1 S0 H0 σ S H st _ fun l1 vs1 xs S1 H1 p1 hn1 st1 hS1 hH1 hd1 => ?_
  refine h2 S0 H0 σ S1 H1 (st.step st1) _ fun l2 vs2 ys S2 H2 p2 hn2 st2 hS2 hH2 hd2 => ?_
  exact ⟨_, _, rfl, k l1 l2 xs ys p1 p2 S0 H0 _ S2 H2 D ((st.putOwn st1 hn1 hS1 hH1 hd1).putOwn st2 hn2 hS2 hH2 hd2) k1 k2 k3 k4⟩
/-- found.append(rest.pop(draw)) -/
theorem ds_popApp {i j : Nat} {l1 l2 : Addr} {xs ys : List PyData} (hi : r[i]? = some (some (.own l1 xs))) (hj : r[j]? = some (some (.own l2 ys))) (hij : i ≠ j) (h : EvX K C m te r (fun z => ∃ d, z = .d (natD d) ∧ d < ys.length)) (hz : xs.length < 100000) (hy : ys.length < 100000)
    (k : ∀ (d : Nat) (hd : d < ys.length), O.nx ((r.set j (some (.own l2 (ys.eraseIdx d)))).set i (some (.own l1 (xs ++ [ys[d]]))))) :
    DS K C m (tDrop (tBM K "list" rAppend (tVar i) (tCons (tBM K "list" rPopAt (tVar j) (tCons te tNil)) tNil))) r O := fun S0 H0 σ S H D st k1 k2 k3 k4 => by
  obtain ⟨v, h1, rfl, h3, vs, h4, h5⟩ := st.sl i _ hi
  obtain ⟨u, u1, rfl, u3, us, u4, u5⟩ := st.sl j _ hj
  refine ⟨.ref l1, h1, .inl ⟨rfl, vs, .inl (.inl h4)⟩, .ref l2, u1, .inl ⟨rfl, us, .inl (.inl u4)⟩, h S0 H0 σ S H st _ fun w s S1 H1 e st1 hw => ?_⟩
  obtain ⟨d, rfl, hd⟩ := e
  have hw' : Dp K S1 w (natD d) := hw
  cases hw'
  have st' := st.step st1
  obtain ⟨_, g1, g2, g3, ws, g4, g5⟩ := st'.sl i _ hi
  obtain ⟨_, e1, e2, e3, ws2, e4, e5⟩ := st'.sl j _ hj
  have ln := dpa_len e5
  have hdl : d < ws2.length := by rw [ln]; exact hd
  obtain ⟨y, hy1, hy2⟩ := dpa_get e5 (i := d) (List.getElem?_eq_getElem hd)
  have hix : seqIndex? (d : Int) ws2.length = some d := by
    unfold seqIndex?
    simp
    omega
  refine ⟨l2, ws2, _, d, y, rfl, rfl, e4, (by omega), (by omega), hix, hy1, ?_⟩
  have d5 : DpAll K S1 (ws2.eraseIdx d) (ys.eraseIdx d) := by
    rw [List.eraseIdx_eq_take_drop_succ, List.eraseIdx_eq_take_drop_succ]
    exact dpa_append (dpa_take _ e5) (dpa_drop _ e5)
  have c1 := st'.chg hj d5
  have hi' : (r.set j (some (.own l2 (ys.eraseIdx d))))[i]? = some (some (.own l1 xs)) := by rw [List.getElem?_set_ne (fun z => hij z.symm)]; exact hi
  obtain ⟨_, f1, f2, f3, ws3, f4, f5⟩ := c1.sl i _ hi'
  refine ⟨l1, ws3, y, rfl, rfl, f4, sz_lt (by rw [dpa_len f5]; exact hz), ?_⟩
  exact k1 _ σ S1 _ (k d hd) (c1.chg hi' (dpa_append f5 (.cons hy2 .nil)))
theorem cl_LTurned (T : Bl K w mg C aW aP) (cD : Cl P w K mg base 1 "_law_draw" (PLDraw K C)) (d : Df K mg "_law_turned" sLTurned ["_law_bag_here", "_law_many"]) : Cl P w K mg base 2 "_law_turned" (PLTurned K C) :=
  pb_cl d scLTurned (fun _ => rfl) (fun _ => rfl) fun f cdv A outer s H E a hr hp => ⟨_, dvLTurned T cD (by omega) hr, by
    obtain ⟨b, n⟩ := a
    have hn : n ≤ 100 := hp
    refine ds_par2O (eo_lstRg (er_var rfl rfl) (by omega)) (eo_lst1 (xs := []) ea_nil (by decide)) fun l1 l2 xs ys e1 e2 => ?_
    subst e1 e2
    refine ds_for (ds := rangeD 0 n) (it_rangeN (er_var rfl rfl) (by omega)) (fun i r => ∃ (rest found : List Nat) (x : Option Sh), r = [some (.bag b), some (.d (natD n)), some (.own l1 (rest.map natD)), some (.own l2 (found.map natD)), x] ∧ (found ++ rest).Perm (List.range n) ∧ rest.length + i = n) ⟨List.range n, [], none, rfl, List.Perm.refl _, by rw [List.length_range, Nat.add_zero]⟩ (fun i d r' hd ⟨rest, found, x, er, hpm, hl⟩ => ?_) fun r' ⟨rest, found, x, er, hpm, hl⟩ => ?_
    · subst er
      obtain ⟨rfl, hi⟩ := range_at hd
      have hfl : found.length ≤ 100 := by
        have := hpm.length_eq
        rw [List.length_append, List.length_range] at this
        omega
      refine ⟨_, _, gt_nameD, ds_popApp (i := 3) (j := 2) (xs := found.map natD) (ys := rest.map natD) rfl rfl (by decide) ((er_draw (lim := rest.length) rfl ((er_lenO (i := 2) rfl).is (by rw [List.length_map])) (by omega) (by omega)).imp fun s ⟨d, e, hd⟩ => ⟨d, e, by rw [List.length_map]; exact hd⟩) (by rw [List.length_map]; omega) (by rw [List.length_map]; omega) fun d hd => ?_⟩
      rw [List.length_map] at hd
      refine ⟨rest.eraseIdx d, found ++ [rest[d]], some (.d (natD i)), ?_, ?_, ?_⟩
      · rw [List.map_append]
        have e1 : (rest.map natD).eraseIdx d = (rest.eraseIdx d).map natD := by
          rw [List.eraseIdx_eq_take_drop_succ, List.eraseIdx_eq_take_drop_succ, List.map_append, List.map_take, List.map_drop]
        rw [e1, List.getElem_map] <;> rfl
      · refine List.Perm.trans ?_ hpm
        rw [List.append_assoc]
        refine List.Perm.append_left _ ?_
        show (rest[d] :: rest.eraseIdx d).Perm rest
        exact perm_erase hd
      · have := List.length_eraseIdx_of_lt hd
        omega
    · subst er
      rw [range_len] at hl
      have hr0 : rest = [] := List.length_eq_zero_iff.mp (by omega)
      subst hr0
      rw [List.append_nil] at hpm
      refine ds_freeze (i := 3) rfl ?_
      exact ds_ret (er_cb (ea_cons (er_varL rfl) ea_nil) rxa_tupL) fun s e => ⟨found, e, hpm⟩⟩
theorem er_cbE {q : List V → Hp → VK → Prop} {A : List PyData → Prop} {f : List PyData → PyData} (h : EvX K C m te r (fun z => ∃ xs, z = .tl xs ∧ A xs)) (hr : ∀ xs, RXA K C q [.d (.list xs)] (fun z => z = .d (f xs))) : EvX K C m (tCB q (tCons te tNil)) r (fun z => ∃ xs, z = .d (f xs) ∧ A xs) := fun S0 H0 σ S H st Q k => by
  show te σ H _
  refine h S0 H0 σ S H st _ fun v s S1 H1 e st1 hv => ?_
  obtain ⟨xs, rfl, ha⟩ := e
  exact hr xs S1 H1 [v] st1.sh (.cons (tl_dp hv) .nil) Q fun v3 s3 S3 H3 p st3 h3 => k v3 s3 S3 H3 ⟨xs, p, ha⟩ (st1.trans st3.wide) h3
theorem cl_LThings (T : Bl K w mg C aW aP) (cD : Cl P w K mg base 1 "_law_draw" (PLDraw K C)) (d : Df K mg "_law_things" sLThings ["_law_bag_here", "_law_many", "_law_size"]) : Cl P w K mg base 2 "_law_things" (PLThings K C) :=
  pb_cl d scLThings (fun _ => rfl) (fun _ => rfl) fun f cdv A outer s H E a hr hp => ⟨_, dvLThings T cD (by omega) hr, by
    obtain ⟨b, n, size⟩ := a
    obtain ⟨hn, h1, h2⟩ := hp
    have hn : n ≤ 100 := hn
    have h1 : 1 ≤ size := h1
    have h2 : size ≤ 100 := h2
    refine ds_ret (P := fun z => ∃ xs, z = .d (.tuple xs) ∧ ∃ t : List Nat, xs = t.map natD ∧ t.length = n ∧ ∀ x ∈ t, x < size) (er_cbE ((er_own (eo_lc (ds := rangeD 0 n) (vs := [3]) (fun i acc => i ≤ n ∧ ∃ t : List Nat, acc = t.map natD ∧ t.length = i ∧ ∀ x ∈ t, x < size) (it_rangeN (er_var rfl rfl) (by omega)) ⟨Nat.zero_le _, [], rfl, rfl, fun _ h => by cases h⟩ (fun i acc ⟨hi, t, e, hl, _⟩ => ?_) fun i d acc hd ⟨_, t, e, hl, ho⟩ => ?_)).imp fun s ⟨xs, e, q⟩ => ⟨xs, e, by rw [range_len] at q; exact q.2⟩) fun xs => rxa_tupL) fun s ⟨xs, e, t, et, hl, ho⟩ => ⟨t, by rw [e, et]; rfl, hl, ho⟩
    · rw [e, List.length_map]
      omega
    · obtain ⟨rfl, hi⟩ := range_at hd
      refine ⟨_, _, gt_nameD, fun _ h => h, fun S0 H0 σ S H st Q q => q true S H ⟨fun _ => ?_, fun z => nomatch z⟩ (Stp.refl st.sh)⟩
      refine (er_draw (lim := size) rfl (er_var rfl rfl) h1 (by omega)).imp fun z ⟨d, ed, hd⟩ => ⟨natD d, ed, hi, t ++ [d], by rw [e, List.map_append]; rfl, by rw [List.length_append, hl]; rfl, fun x hx => ?_⟩
      rcases List.mem_append.mp hx with c | c
      · exact ho x c
      · rw [List.mem_singleton.mp c]
        exact hd⟩
theorem et_orR {u : TT} {P : Bool → Prop} (h1 : EvT K C m t r (fun z => z = false)) (h2 : EvT K C m u r P) : EvT K C m (tOr t u) r P := fun S0 H0 σ S H x Q q =>
  h1 S0 H0 σ S H x _ fun c S1 H1 e st1 => by
    subst e
    show u σ H1 Q
    exact h2 S0 H0 σ S1 H1 (x.step st1) Q fun c2 S2 H2 e2 st2 => q c2 S2 H2 e2 (st1.trans st2)
theorem ds_ifX {P : Bool → Prop} (h : EvT K C m t r P) (h1 : DS K C m tu r { O with nx := fun _ => False }) (h2 : P false → DS K C m tz r O) : DS K C m (tSeq (tIfS t tu tNext) tz) r O := fun S0 H0 σ S H D st k1 k2 k3 k4 =>
  h S0 H0 σ S H st _ fun c S1 H1 e st1 => by
    cases c with
    | true => exact ds_out h1 S0 H0 σ S1 H1 D (st.step st1) k1 k2 k3 k4
    | false => exact ds_skip (h2 e) S0 H0 σ S1 H1 D (st.step st1) k1 k2 k3 k4
/-- draw == a number -/
theorem et_eqX {A : Nat → Prop} {n : Nat} (h1 : EvX K C m ta r (fun z => ∃ d, z = .d (natD d) ∧ A d)) (h2 : EvX K C m tb r (fun z => z = .d (natD n))) : EvT K C m (tTest (tOp (rEqD K) ta tb)) r (fun _ => True) := fun S0 H0 σ S H x Q q =>
  (er_opX (P := fun z => ∃ c, z = .d (.bool c)) h1 h2 (fun s ⟨d, e, _⟩ => by rw [e] <;> rfl) fun s1 s2 ⟨d, e, _⟩ e2 => by
    subst e e2
    intro S H v w hs hv hw Q q
    exact rx_eqD (shaped_int _) (shaped_int _) S H v w hs hv hw Q fun v s S' H' e => q v s S' H' ⟨_, e⟩) S0 H0 σ S H x _ fun v s S1 H1 ⟨c, e⟩ st1 hv => by
    subst e
    cases hv
    exact ⟨c, rfl, q c S1 H1 trivial st1⟩
/-- arguments of draws -/
theorem ea3X {P1 P2 P3 : PyData → Prop} {t1 t2 t3 : TE} (h1 : EvX K C m t1 r (fun z => ∃ x, z = .d x ∧ P1 x)) (h2 : EvX K C m t2 r (fun z => ∃ x, z = .d x ∧ P2 x)) (h3 : EvX K C m t3 r (fun z => ∃ x, z = .d x ∧ P3 x)) :
    EvA K C m (tCons t1 (tCons t2 (tCons t3 tNil))) r (fun z => ∃ x y w, z = [.d x, .d y, .d w] ∧ P1 x ∧ P2 y ∧ P3 w) :=
  ea_consX (P2 := fun _ ss => ∃ y w, ss = [.d y, .d w] ∧ P2 y ∧ P3 w) h1 (fun s ⟨x, e, _⟩ => by rw [e] <;> rfl) (fun _ _ => ea_consX (P2 := fun _ ss => ∃ w, ss = [.d w] ∧ P3 w) h2 (fun s ⟨x, e, _⟩ => by rw [e] <;> rfl) (fun _ _ => ea_consX (P2 := fun _ ss => ss = []) h3 (fun s ⟨x, e, _⟩ => by rw [e] <;> rfl) (fun _ _ => ea_nil) fun s ss ⟨x, e, q⟩ e2 => ⟨x, by rw [e, e2], q⟩) fun s ss ⟨y, e, q⟩ ⟨w, e2, q2⟩ => ⟨y, w, by rw [e, e2], q, q2⟩) fun s ss ⟨x, e, q⟩ ⟨y, w, e2, q2⟩ => ⟨x, y, w, by rw [e, e2], q, q2⟩
theorem ea2X {P1 P2 : PyData → Prop} {t1 t2 : TE} (h1 : EvX K C m t1 r (fun z => ∃ x, z = .d x ∧ P1 x)) (h2 : EvX K C m t2 r (fun z => ∃ x, z = .d x ∧ P2 x)) :
    EvA K C m (tCons t1 (tCons t2 tNil)) r (fun z => ∃ x y, z = [.d x, .d y] ∧ P1 x ∧ P2 y) :=
  ea_consX (P2 := fun _ ss => ∃ w, ss = [.d w] ∧ P2 w) h1 (fun s ⟨x, e, _⟩ => by rw [e] <;> rfl) (fun _ _ => ea_consX (P2 := fun _ ss => ss = []) h2 (fun s ⟨x, e, _⟩ => by rw [e] <;> rfl) (fun _ _ => ea_nil) fun s ss ⟨x, e, q⟩ e2 => ⟨x, by rw [e, e2], q⟩) fun s ss ⟨x, e, q⟩ ⟨w, e2, q2⟩ => ⟨x, w, by rw [e, e2], q, q2⟩
theorem er_any {te : TE} {x : PyData} (h : EvX K C m te r (fun z => z = .d x)) : EvX K C m te r (fun z => ∃ y, z = .d y ∧ y = x) := h.imp fun s e => ⟨x, e, rfl⟩
theorem er_tup3X {P1 P2 P3 : PyData → Prop} {t1 t2 t3 : TE} (h1 : EvX K C m t1 r (fun z => ∃ x, z = .d x ∧ P1 x)) (h2 : EvX K C m t2 r (fun z => ∃ x, z = .d x ∧ P2 x)) (h3 : EvX K C m t3 r (fun z => ∃ x, z = .d x ∧ P3 x)) :
    EvX K C m (tTup (tCons t1 (tCons t2 (tCons t3 tNil)))) r (fun z => ∃ x y w, z = .d (.tuple [x, y, w]) ∧ P1 x ∧ P2 y ∧ P3 w) :=
  (er_tupX (R := fun xs => ∃ x y w, xs = [x, y, w] ∧ P1 x ∧ P2 y ∧ P3 w) (fun S0 H0 σ S H st Q q => ea3X h1 h2 h3 S0 H0 σ S H st Q fun vs ss S' H' ⟨x, y, w, e, q1⟩ => q vs ss S' H' ⟨[x, y, w], e, ⟨x, y, w, rfl, q1⟩, (show 3 ≤ 100000 by decide)⟩)).imp fun s ⟨xs, e, x, y, w, e2, q⟩ => ⟨x, y, w, by rw [e, e2], q⟩
theorem er_tup2X {P1 P2 : PyData → Prop} {t1 t2 : TE} (h1 : EvX K C m t1 r (fun z => ∃ x, z = .d x ∧ P1 x)) (h2 : EvX K C m t2 r (fun z => ∃ x, z = .d x ∧ P2 x)) :
    EvX K C m (tTup (tCons t1 (tCons t2 tNil))) r (fun z => ∃ x y, z = .d (.tuple [x, y]) ∧ P1 x ∧ P2 y) :=
  (er_tupX (R := fun xs => ∃ x y, xs = [x, y] ∧ P1 x ∧ P2 y) (fun S0 H0 σ S H st Q q => ea2X h1 h2 S0 H0 σ S H st Q fun vs ss S' H' ⟨x, y, e, q1⟩ => q vs ss S' H' ⟨[x, y], e, ⟨x, y, rfl, q1⟩, (show 2 ≤ 100000 by decide)⟩)).imp fun s ⟨xs, e, x, y, e2, q⟩ => ⟨x, y, by rw [e, e2], q⟩
theorem er_sub1 {n : Nat} (hn : 1 ≤ n) (h : EvX K C m te r (fun z => z = .d (natD n))) : EvX K C m (tOp (rI0 fun i j => .int (i - j)) te (tC (.int 1))) r (fun z => z = .d (natD (n - 1))) :=
  (er_op h (er_int 1) rx_sub).is (by
    show Sh.d (.int ((n : Int) - 1)) = Sh.d (.int ((n - 1 : Nat) : Int))
    congr 2
    omega)
theorem word_of {x : PyData} (h : x ∈ ([.str "with", .str "behind", .str "ahead"] : List PyData)) : ∃ v : Wd, x = .str v.s := by
  simp only [List.mem_cons, List.not_mem_nil, or_false] at h
  rcases h with h | h | h
  · exact ⟨.wi, h⟩
  · exact ⟨.be, h⟩
  · exact ⟨.ah, h⟩
theorem cl_LFormula (T : Bl K w mg C aW aP) (cD : Cl P w K mg base 1 "_law_draw" (PLDraw K C)) (cP : Cl P w K mg base 2 "_law_pick" (PLPick K C)) (d : Df K mg "_law_formula" sLFormula ["_law_bag_here", "_law_names", "_law_deep"]) : ∀ n, Cl P w K mg base (3 + n) "_law_formula" (PLFormula K C n)
  | 0 => pb_cl (k := 2) d scLFormula (fun _ => rfl) (fun _ => rfl) fun f cdv A outer s H E a hr hp => absurd hp.2.2 (Nat.not_lt_zero _)
  | n + 1 => pb_cl (k := 3 + n) d scLFormula (fun _ => rfl) (fun _ => rfl) fun f cdv A outer s H E a hr hp => ⟨_, dvLFormula T cD (by omega) cP (by omega) (cl_LFormula T cD cP d n) (by omega) hr, by
    obtain ⟨b, k, dp⟩ := a
    obtain ⟨h1, h8, hn⟩ := hp
    have h1 : 1 ≤ k := h1
    have h8 : k ≤ 8 := h8
    have hn : dp < n + 1 := hn
    have ret : DS K C (some b) (tRet (tCall (PLDraw K C) [] L2.E0 (tCons (tVar 0) (tCons (tVar 1) tNil)))) [some (.bag b), some (.d (natD k)), some (.d (natD dp)), none] { rt := fun s => ∃ f : F, s = .d f.d ∧ f.lt k = true ∧ f.dep ≤ dp } :=
      ds_ret (er_draw (lim := k) rfl (er_var rfl rfl) h1 (by omega)) fun s ⟨d, e, hd⟩ => ⟨.nm d, e, decide_eq_true hd, Nat.zero_le _⟩
    cases dp with
    | zero => exact ds_ifr (b := true || true) (et_or (a := true) (b := true) (et_eqN (a := 0) (b := 0) (er_var rfl rfl) (er_int 0)) fun e => nomatch e) (fun _ => ret) fun e => nomatch e
    | succ dp =>
      refine ds_ifX (et_orR (et_is (et_eqN (a := dp + 1) (b := 0) (er_var rfl rfl) (er_int 0)) (decide_eq_false (by omega))) (et_eqX (n := 0) (er_draw (lim := 4) rfl (er_int 4) (by decide) (by decide)) (er_int 0))) ret fun _ => ?_
      refine ds_setX (P := fun z => ∃ v : Wd, z = .d (.str v.s)) ((er_pick1 (xs := [.str "with", .str "behind", .str "ahead"]) rfl (er_lst (ea_cons (er_str _) (ea_cons (er_str _) (ea_cons (er_str _) ea_nil))) (show 3 ≤ 100000 by decide)) (by simp) (show 3 ≤ 100000 by decide)).imp fun s ⟨x, e, hx⟩ => by
        obtain ⟨v, ev⟩ := word_of hx
        exact ⟨v, by rw [e, ev]⟩) (fun s ⟨v, e⟩ => by rw [e]; exact ⟨rfl, fun _ z => nomatch z⟩) fun s ⟨v, e⟩ => ?_
      subst e
      have sub0 : EvX K C (some b) (tCall (PLFormula K C n) [] L2.E0 (tCons (tVar 0) (tCons (tVar 1) (tCons (tOp (rI0 fun i j => .int (i - j)) (tVar 2) (tC (.int 1))) tNil)))) [some (.bag b), some (.d (natD k)), some (.d (natD (dp + 1))), some (.d (.str v.s))] (fun s => ∃ f : F, s = .d f.d ∧ f.lt k = true ∧ f.dep ≤ dp) :=
        er_call1 (b, k, dp) (ea_cons (er_var rfl rfl) (ea_cons (er_var rfl rfl) (ea_cons ((er_sub1 (n := dp + 1) (by omega) (er_var rfl rfl)).is rfl) ea_nil))) ⟨h1, h8, show dp < n by omega⟩ (fun s e => e) (.inr rfl)
      have sub := sub0.imp (P' := fun z => ∃ x, z = .d x ∧ ∃ f : F, x = f.d ∧ f.lt k = true ∧ f.dep ≤ dp) fun s ⟨f, e, q⟩ => ⟨f.d, e, f, rfl, q⟩
      refine ds_ret (er_tup3X (P1 := fun x => x = .str v.s) (P2 := fun x => ∃ f : F, x = f.d ∧ f.lt k = true ∧ f.dep ≤ dp) (P3 := fun x => ∃ f : F, x = f.d ∧ f.lt k = true ∧ f.dep ≤ dp) (er_any (x := .str v.s) (er_var rfl rfl)) sub sub) fun s ⟨x, y, z, e, ex, ⟨f, ey, f1, f2⟩, ⟨g, ez, g1, g2⟩⟩ => ⟨.op v f g, by rw [e, ex, ey, ez] <;> rfl, ?_, ?_⟩
      · show (f.lt k && g.lt k) = true
        rw [f1, g1] <;> rfl
      · show 1 + max f.dep g.dep ≤ dp + 1
        omega⟩
theorem ds_par2X {i j : Nat} {tA : TA} {P1 P2 : PyData → Prop} (h : EvA K C m tA r (fun z => ∃ x y, z = [.d x, .d y] ∧ P1 x ∧ P2 y)) (k : ∀ x y, P1 x → P2 y → DS K C m tz ((r.set i (some (.d x))).set j (some (.d y))) O) : DS K C m (tSeq (tPar i j tA) tz) r O := fun S0 H0 σ S H D st k1 k2 k3 k4 =>
  h S0 H0 σ S H st _ fun vs ss S1 H1 e st1 hv => by
    obtain ⟨x, y, rfl, p1, p2⟩ := e
    cases hv with
    | cons h1 ht =>
      cases ht with
      | cons h2 hu =>
        cases hu
        exact ⟨_, _, rfl, k x y p1 p2 S0 H0 _ S1 H1 D (((st.step st1).put (s := .d x) rfl (fun _ z => nomatch z) h1).put (s := .d y) rfl (fun _ z => nomatch z) h2) k1 k2 k3 k4⟩
theorem dep_op {v : Wd} {a b : F} : (F.op v a b).dep = 1 + max a.dep b.dep := rfl
theorem lt_op {v : Wd} {a b : F} {k : Nat} (h1 : a.lt k = true) (h2 : b.lt k = true) : (F.op v a b).lt k = true := by
  show (a.lt k && b.lt k) = true
  rw [h1, h2] <;> rfl
theorem cl_LNear (T : Bl K w mg C aW aP) (cD : Cl P w K mg base 1 "_law_draw" (PLDraw K C)) (cF : Cl P w K mg base 6 "_law_formula" (PLFormula K C 3)) (d : Df K mg "_law_near" sLNear ["_law_bag_here", "_law_formula_here", "_law_names"]) : ∀ n, Cl P w K mg base (7 + n) "_law_near" (PLNear K C n)
  | 0 => pb_cl (k := 6) d scLNear (fun _ => rfl) (fun _ => rfl) fun f cdv A outer s H E a hr hp => absurd hp.2.2.2 (Nat.not_lt_zero _)
  | n + 1 => pb_cl (k := 7 + n) d scLNear (fun _ => rfl) (fun _ => rfl) fun f cdv A outer s H E a hr hp => ⟨_, dvLNear T cD (by omega) cF (by omega) (cl_LNear T cD cF d n) (by omega) hr, by
    obtain ⟨b, g, k⟩ := a
    obtain ⟨h1, h8, hl, hn⟩ := hp
    have h1 : 1 ≤ k := h1
    have h8 : k ≤ 8 := h8
    have hl : g.lt k = true := hl
    have hA : EvA K C (some b) (tCons (tCall (PLDraw K C) [] L2.E0 (tCons (tVar 0) (tCons (tC (.int 8)) tNil))) (tCons (tCall (PLDraw K C) [] L2.E0 (tCons (tVar 0) (tCons (tVar 2) tNil))) tNil)) (rho0 NLNear [.bag b, .d g.d, .d (natD k)]) (fun z => ∃ x y, z = [.d x, .d y] ∧ (∃ d, x = natD d ∧ d < 8) ∧ ∃ d, y = natD d ∧ d < k) :=
      ea2X ((er_draw (lim := 8) rfl (er_int 8) (by decide) (by decide)).imp fun s ⟨d, e, q⟩ => ⟨_, e, d, rfl, q⟩) ((er_draw (lim := k) rfl (er_var rfl rfl) h1 (by omega)).imp fun s ⟨d, e, q⟩ => ⟨_, e, d, rfl, q⟩)
    refine ds_par2X hA fun x y ⟨way, ew, hway⟩ ⟨own, eo, hown⟩ => ?_
    subst ew eo
    · · have o1 : (F.nm own).lt k = true := decide_eq_true hown
        have od : (F.nm own).dep = 0 := rfl
        have eO : ∀ {x5 : Option Sh}, EvX K C (some b) (tVar 4) [some (.bag b), some (.d g.d), some (.d (natD k)), some (.d (natD way)), some (.d (natD own)), x5] (fun z => z = .d (F.nm own).d) := er_var rfl rfl
        have eG : ∀ {x5 : Option Sh}, EvX K C (some b) (tVar 1) [some (.bag b), some (.d g.d), some (.d (natD k)), some (.d (natD way)), some (.d (natD own)), x5] (fun z => z = .d g.d) := er_var rfl rfl
        refine ds_setTl (er_own1 (eo_lst1 (xs := [(F.op .wi (.nm own) (.op .be (.nm own) g)).d, (F.op .wi (.op .ah (.nm own) g) (.nm own)).d, (F.op .be (.nm own) (.op .wi (.nm own) g)).d]) (ea_cons (er_opF (er_wd .wi rfl) eO (er_opF (er_wd .be rfl) eO eG)) (ea_cons (er_opF (er_wd .wi rfl) (er_opF (er_wd .ah rfl) eO eG) eO) (ea_cons (er_opF (er_wd .be rfl) eO (er_opF (er_wd .wi rfl) eO eG)) ea_nil))) (show 3 ≤ 100000 by decide))) ?_
        refine ds_setTl (er_own1 (eo_cat (xs := [(F.op .wi (.nm own) (.op .be (.nm own) g)).d, (F.op .wi (.op .ah (.nm own) g) (.nm own)).d, (F.op .be (.nm own) (.op .wi (.nm own) g)).d]) (ys := [(F.op .be (.op .ah g (.nm own)) (.nm own)).d, (F.op .ah (.nm own) (.op .wi g (.nm own))).d]) (er_var rfl rfl) (er_own1 (eo_lst1 (ea_cons (er_opF (er_wd .be rfl) (er_opF (er_wd .ah rfl) eG eO) eO) (ea_cons (er_opF (er_wd .ah rfl) eO (er_opF (er_wd .wi rfl) eG eO)) ea_nil)) (show 2 ≤ 100000 by decide))) (show 3 + 2 ≤ 100000 by decide))) ?_
        refine ds_setTl (er_own1 (eo_cat (ta := tVar 5) (xs := [(F.op .wi (.nm own) (.op .be (.nm own) g)).d, (F.op .wi (.op .ah (.nm own) g) (.nm own)).d, (F.op .be (.nm own) (.op .wi (.nm own) g)).d] ++ [(F.op .be (.op .ah g (.nm own)) (.nm own)).d, (F.op .ah (.nm own) (.op .wi g (.nm own))).d]) (ys := [(F.op .ah (.op .be g (.nm own)) (.nm own)).d]) (er_var rfl rfl) (er_own1 (eo_lst1 (ea_cons (er_opF (er_wd .ah rfl) (er_opF (er_wd .be rfl) eG eO) eO) ea_nil) (show 1 ≤ 100000 by decide))) (show 5 + 1 ≤ 100000 by decide))) ?_
        refine ds_ifr (et_val (er_op (er_var rfl rfl) (er_int 6) rx_lt)) (fun e => ?_) fun e => ?_
        · have e := of_decide_eq_true e
          have e : way < 6 := by omega
          have fin : ∀ f : F, f.lt k = true → f.dep ≤ g.dep + 2 → ([(F.op .wi (.nm own) (.op .be (.nm own) g)).d, (F.op .wi (.op .ah (.nm own) g) (.nm own)).d, (F.op .be (.nm own) (.op .wi (.nm own) g)).d] ++ [(F.op .be (.op .ah g (.nm own)) (.nm own)).d, (F.op .ah (.nm own) (.op .wi g (.nm own))).d] ++ [(F.op .ah (.op .be g (.nm own)) (.nm own)).d])[way]? = some f.d → DS K C (some b) (tRet (tOp (rIx K) (tVar 5) (tVar 3))) [some (.bag b), some (.d g.d), some (.d (natD k)), some (.d (natD way)), some (.d (natD own)), some (.tl ([(F.op .wi (.nm own) (.op .be (.nm own) g)).d, (F.op .wi (.op .ah (.nm own) g) (.nm own)).d, (F.op .be (.nm own) (.op .wi (.nm own) g)).d] ++ [(F.op .be (.op .ah g (.nm own)) (.nm own)).d, (F.op .ah (.nm own) (.op .wi g (.nm own))).d] ++ [(F.op .ah (.op .be g (.nm own)) (.nm own)).d]))] { rt := fun s => ∃ f : F, s = .d f.d ∧ f.lt k = true ∧ f.dep ≤ g.dep + 2 } := fun f f1 f2 f3 =>
            ds_ret (er_op (er_varL rfl) (er_var rfl rfl) (rx_ixL (i := (way : Int)) (by rw [atI_nat (show way < 6 from e)]; exact f3))) fun s es => ⟨f, es, f1, f2⟩
          match way, e with
          | 0, _ => exact fin _ (lt_op o1 (lt_op o1 hl)) (by rw [dep_op, dep_op, od]; omega) rfl
          | 1, _ => exact fin _ (lt_op (lt_op o1 hl) o1) (by rw [dep_op, dep_op, od]; omega) rfl
          | 2, _ => exact fin _ (lt_op o1 (lt_op o1 hl)) (by rw [dep_op, dep_op, od]; omega) rfl
          | 3, _ => exact fin _ (lt_op (lt_op hl o1) o1) (by rw [dep_op, dep_op, od]; omega) rfl
          | 4, _ => exact fin _ (lt_op o1 (lt_op hl o1)) (by rw [dep_op, dep_op, od]; omega) rfl
          | 5, _ => exact fin _ (lt_op (lt_op hl o1) o1) (by rw [dep_op, dep_op, od]; omega) rfl
          | w + 6, e => exact absurd e (by omega)
        · refine ds_ifr (b := g.isNm || decide (way = 6)) (et_or (et_isInt (er_var rfl rfl)) fun _ => et_eqN (a := way) (b := 6) (er_var rfl rfl) (er_int 6)) (fun e2 => ?_) fun e2 => ?_
          · exact ds_ret (er_call1 (P := fun s => ∃ f : F, s = .d f.d ∧ f.lt k = true ∧ f.dep ≤ 2) (b, k, 2) (ea_cons (er_var rfl rfl) (ea_cons (er_var rfl rfl) (ea_cons (er_int 2) ea_nil))) ⟨h1, h8, show 2 < 3 by decide⟩ (fun s e => e) (.inr rfl)) fun s ⟨f, e, f1, f2⟩ => ⟨f, e, f1, by omega⟩
          · cases g with
            | nm x => cases e2
            | op v x y =>
              obtain ⟨lx, ly⟩ := flt hl
              obtain ⟨nx, ny⟩ := fdep hn
              have sub0 : EvX K C (some b) (tCall (PLNear K C n) [] L2.E0 (tCons (tVar 0) (tCons (tOp (rIx K) (tVar 1) (tC (.int 1))) (tCons (tVar 2) tNil)))) [some (.bag b), some (.d (F.op v x y).d), some (.d (natD k)), some (.d (natD way)), some (.d (natD own)), some (.tl ([(F.op .wi (.nm own) (.op .be (.nm own) (F.op v x y))).d, (F.op .wi (.op .ah (.nm own) (F.op v x y)) (.nm own)).d, (F.op .be (.nm own) (.op .wi (.nm own) (F.op v x y))).d] ++ [(F.op .be (.op .ah (F.op v x y) (.nm own)) (.nm own)).d, (F.op .ah (.nm own) (.op .wi (F.op v x y) (.nm own))).d] ++ [(F.op .ah (.op .be (F.op v x y) (.nm own)) (.nm own)).d]))] (fun s => ∃ f : F, s = .d f.d ∧ f.lt k = true ∧ f.dep ≤ x.dep + 2) :=
                er_call1 (b, x, k) (ea_cons (er_var rfl rfl) (ea_cons (er_i1 (wd := v) (a := x) (b := y) (er_var rfl rfl)) (ea_cons (er_var rfl rfl) ea_nil))) ⟨h1, h8, lx, nx⟩ (fun s e => e) (.inr rfl)
              have sub := sub0.imp (P' := fun z => ∃ u, z = .d u ∧ ∃ f : F, u = f.d ∧ f.lt k = true ∧ f.dep ≤ x.dep + 2) fun s ⟨f, e, q⟩ => ⟨f.d, e, f, rfl, q⟩
              refine ds_ret (er_tup3X (P1 := fun u => u = .str v.s) (P2 := fun u => ∃ f : F, u = f.d ∧ f.lt k = true ∧ f.dep ≤ x.dep + 2) (P3 := fun u => u = y.d) (er_any (er_i0 (wd := v) (a := x) (b := y) (er_var rfl rfl))) sub (er_any (er_i2 (wd := v) (a := x) (b := y) (er_var rfl rfl)))) fun s ⟨z1, z2, z3, e, e1, ⟨f, e3, f1, f2⟩, e4⟩ => ⟨.op v f y, by rw [e, e1, e3, e4] <;> rfl, lt_op f1 ly, ?_⟩
              rw [dep_op, dep_op]
              omega⟩
end
end RD

end
section
set_option linter.all false
set_option maxRecDepth 100000
set_option maxHeartbeats 4000000
/-! M7: turning over two rows of a square: each row stays a permutation. -/
namespace RD
open PySem PySem.Spec PyProof.Rows L2
theorem perm_set {α : Type} {l : List α} {i : Nat} (v : α) (h : i < l.length) : (l.set i v).Perm (v :: l.eraseIdx i) := by
  have h' : i < (l.set i v).length := by rw [List.length_set]; exact h
  have := perm_erase h'
  rw [List.getElem_set_self, List.eraseIdx_set_eq] at this
  exact this.symm
theorem swap_two {α : Type} {A B : List α} {c : Nat} (hA : c < A.length) (hB : c < B.length) : (A.set c B[c] ++ B.set c A[c]).Perm (A ++ B) := by
  have a1 := perm_set B[c] hA
  have b1 := perm_set A[c] hB
  have a2 := perm_erase hA
  have b2 := perm_erase hB
  refine (a1.append b1).trans (List.Perm.trans ?_ (a2.append b2))
  show (B[c] :: (A.eraseIdx c ++ A[c] :: B.eraseIdx c)).Perm (A[c] :: (A.eraseIdx c ++ B[c] :: B.eraseIdx c))
  refine (List.Perm.cons _ List.perm_middle).trans (List.Perm.trans (List.Perm.swap _ _ _) (List.Perm.cons _ List.perm_middle.symm))
theorem swap_one {α : Type} {X : List α} {i j : Nat} (hi : i < X.length) (hj : j < X.length) (hij : i ≠ j) : ((X.set i X[j]).set j X[i]).Perm X := by
  have hj' : j < (X.set i X[j]).length := by rw [List.length_set]; exact hj
  have y1 := perm_set X[j] hi
  have y2 := perm_erase hj'
  have e : (X.set i X[j])[j] = X[j] := List.getElem_set_ne hij hj'
  rw [e] at y2
  have k := List.perm_cons _ |>.mp (y2.trans y1)
  exact (perm_set X[i] hj').trans ((List.Perm.cons _ k).trans (perm_erase hi))
theorem row_lt {size : Nat} {r : List Nat} (h : rowOk size r) {k : Nat} (hk : k < r.length) : r[k] < size := List.mem_range.mp (h.mem_iff.mp (List.getElem_mem hk))
theorem row_len {size : Nat} {r : List Nat} (h : rowOk size r) : r.length = size := by rw [h.length_eq, List.length_range]
theorem row_nd {size : Nat} {r : List Nat} (h : rowOk size r) : r.Nodup := h.nodup_iff.mpr List.nodup_range
theorem nodup_inj {α : Type} {l : List α} (h : l.Nodup) {i j : Nat} (hi : i < l.length) (hj : j < l.length) (e : l[i] = l[j]) : i = j := by
  rcases Nat.lt_trichotomy i j with c | c | c
  · exact absurd e (List.pairwise_iff_getElem.mp h i j hi hj c)
  · exact c
  · exact absurd e.symm (List.pairwise_iff_getElem.mp h j i hj hi c)
/-- where the turning stands -/
structure TO (size : Nat) (A0 B0 : List Nat) (b0 t : Nat) (A B : List Nat) (c : Nat) : Prop where
  la : A.length = size
  lb : B.length = size
  hc : c < size
  p1 : rowOk size (A.set c b0)
  p3 : (A ++ B).Perm (List.range size ++ List.range size)
  vis : ∃ vis : List Nat, vis.Nodup ∧ vis.length = t ∧ c ∉ vis ∧ (∀ k ∈ vis, k < size) ∧ (∀ k, k < size → A[k]? = if k ∈ vis then B0[k]? else A0[k]?) ∧ ∀ k, k < size → B[k]? = if k ∈ vis then A0[k]? else B0[k]?
section
variable {size : Nat} {A0 B0 A B : List Nat} {b0 t c : Nat}
theorem to_start (hA : rowOk size A0) (hB : rowOk size B0) (hc : c < size) (h0 : A0[c]? = some b0) : TO size A0 B0 b0 0 A0 B0 c := by
  have la := row_len hA
  have hc' : c < A0.length := by rw [la]; exact hc
  have e : A0.set c b0 = A0 := by
    rw [List.getElem?_eq_getElem hc'] at h0
    have h0 := Option.some.inj h0
    rw [← h0]
    exact List.set_getElem_self hc'
  refine ⟨la, row_len hB, hc, by rw [e]; exact hA, hA.append hB, [], List.nodup_nil, rfl, List.not_mem_nil, (fun _ h => by cases h), fun k _ => ?_, fun k _ => ?_⟩
  · rw [if_neg List.not_mem_nil]
  · rw [if_neg List.not_mem_nil]
theorem to_lt (h : TO size A0 B0 b0 t A B c) : t < size := by
  obtain ⟨vis, v1, v2, v3, v4, _⟩ := h.vis
  have := L2.nat_nodup_len (c :: vis) (List.range size) (List.nodup_cons.mpr ⟨v3, v1⟩) fun x hx => by
    rcases List.mem_cons.mp hx with q | q
    · rw [q]
      exact List.mem_range.mpr h.hc
    · exact List.mem_range.mpr (v4 x q)
  rw [List.length_cons, List.length_range] at this
  omega
theorem to_cell (h : TO size A0 B0 b0 t A B c) : ∃ v u, B[c]? = some v ∧ A[c]? = some u := by
  have l1 := h.la
  have l2 := h.lb
  have l3 := h.hc
  exact ⟨_, _, List.getElem?_eq_getElem (by omega), List.getElem?_eq_getElem (by omega)⟩
/-- all is well again -/
theorem to_break (h : TO size A0 B0 b0 t A B c) {u : Nat} (hv : B[c]? = some b0) (hu : A[c]? = some u) : rowOk size (A.set c b0) ∧ rowOk size (B.set c u) := by
  refine ⟨h.p1, ?_⟩
  have l1 := h.la
  have l2 := h.lb
  have l3 := h.hc
  have ha : c < A.length := by omega
  have hb : c < B.length := by omega
  rw [List.getElem?_eq_getElem hb] at hv
  rw [List.getElem?_eq_getElem ha] at hu
  have hv := Option.some.inj hv
  have hu := Option.some.inj hu
  have sw := swap_two ha hb
  rw [hv, hu] at sw
  have q := sw.trans h.p3
  have q2 := ((h.p1).append_right (B.set c u)).symm.trans q
  exact (List.perm_append_left_iff _).mp q2
/-- there is a way on -/
theorem to_next (h : TO size A0 B0 b0 t A B c) (hB0 : rowOk size B0) {u v : Nat} (hv : B[c]? = some v) (hu : A[c]? = some u) (hne : v ≠ b0) :
    (∃ k, k < size ∧ k ≠ c ∧ (A.set c v)[k]? = some v) ∧ ∀ k, k < size → k ≠ c → (A.set c v)[k]? = some v → TO size A0 B0 b0 (t + 1) (A.set c v) (B.set c u) k := by
  have l1 := h.la
  have l2 := h.lb
  have l3 := h.hc
  have ha : c < A.length := by omega
  have hb : c < B.length := by omega
  obtain ⟨vis, v1, v2, v3, v4, v5, v6⟩ := h.vis
  have lB0 := row_len hB0
  have hbc : B0[c]? = some v := by
    have := v6 c l3
    rw [if_neg v3] at this
    rw [← this]
    exact hv
  have hvs : v < size := by
    rw [List.getElem?_eq_getElem (by omega)] at hbc
    rw [← Option.some.inj hbc]
    exact row_lt hB0 _
  refine ⟨?_, fun k hk hkc hkv => ?_⟩
  · have hm : v ∈ A.set c b0 := h.p1.mem_iff.mpr (List.mem_range.mpr hvs)
    obtain ⟨k, hk⟩ := List.mem_iff_getElem?.mp hm
    have hkl := (List.getElem?_eq_some_iff.mp hk).1
    rw [List.length_set] at hkl
    have hkc : k ≠ c := fun z => by
      rw [z, List.getElem?_set_self ha] at hk
      exact hne (Option.some.inj hk).symm
    refine ⟨k, by omega, hkc, ?_⟩
    rw [List.getElem?_set_ne (fun z => hkc z.symm)] at hk ⊢
    exact hk
  · rw [List.getElem?_set_ne (fun z => hkc z.symm)] at hkv
    have hkvis : k ∉ vis := fun z => by
      have := v5 k hk
      rw [if_pos z, hkv] at this
      have hk0 : k < B0.length := by omega
      have hc0 : c < B0.length := by omega
      rw [List.getElem?_eq_getElem hk0] at this
      rw [List.getElem?_eq_getElem hc0] at hbc
      have e : B0[k] = B0[c] := by rw [← Option.some.inj this, Option.some.inj hbc]
      exact hkc (nodup_inj (row_nd hB0) hk0 hc0 e)
    have hkl : k < A.length := by omega
    refine ⟨by rw [List.length_set]; exact l1, by rw [List.length_set]; exact l2, hk, ?_, ?_, c :: vis, List.nodup_cons.mpr ⟨v3, v1⟩, by rw [List.length_cons, v2], fun z => ?_, fun x hx => ?_, fun x hx => ?_, fun x hx => ?_⟩
    · have hX : c < (A.set c b0).length := by rw [List.length_set]; exact ha
      have hX2 : k < (A.set c b0).length := by rw [List.length_set]; exact hkl
      have sw := swap_one hX hX2 (fun z => hkc z.symm)
      have e1 : (A.set c b0)[k] = v := by
        rw [List.getElem_set_ne (fun z => hkc z.symm)]
        rw [List.getElem?_eq_getElem hkl] at hkv
        exact Option.some.inj hkv
      have e2 : (A.set c b0)[c] = b0 := List.getElem_set_self hX
      rw [e1, e2, List.set_set] at sw
      exact sw.trans h.p1
    · have sw := swap_two ha hb
      rw [List.getElem?_eq_getElem hb] at hv
      rw [List.getElem?_eq_getElem ha] at hu
      rw [Option.some.inj hv, Option.some.inj hu] at sw
      exact sw.trans h.p3
    · rcases List.mem_cons.mp z with q | q
      · exact hkc q
      · exact hkvis q
    · rcases List.mem_cons.mp hx with q | q
      · rw [q]; exact l3
      · exact v4 x q
    · by_cases q : c = x
      · subst q
        rw [List.getElem?_set_self ha, if_pos List.mem_cons_self, hbc]
      · rw [List.getElem?_set_ne q, v5 x hx]
        by_cases y : x ∈ vis
        · rw [if_pos y, if_pos (List.mem_cons_of_mem _ y)]
        · rw [if_neg y, if_neg fun z => by
            rcases List.mem_cons.mp z with w | w
            · exact q w.symm
            · exact y w]
    · by_cases q : c = x
      · subst q
        have := v5 c hx
        rw [if_neg v3] at this
        rw [List.getElem?_set_self hb, if_pos List.mem_cons_self, ← this, hu]
      · rw [List.getElem?_set_ne q, v6 x hx]
        by_cases y : x ∈ vis
        · rw [if_pos y, if_pos (List.mem_cons_of_mem _ y)]
        · rw [if_neg y, if_neg fun z => by
            rcases List.mem_cons.mp z with w | w
            · exact q w.symm
            · exact y w]
end
end RD

end
section
set_option linter.all false
set_option maxRecDepth 100000
set_option maxHeartbeats 4000000
/-! B3: turn_over. -/
namespace RD
open PySem PySem.Spec PyProof.Rows L2
section
variable {P : Program} {w : World} {K : PySem.W.Frag} {mg : Str → Option Value} {base : Heap} {C aW aP : Addr} {m : Option Addr} {D : Addr → Prop} {S H S1 H1 : Hp} {g : Addr} {ls : List Addr} {rows : List (List Nat)}
theorem Fit.stm {σ : L2.St} {r : Rho} (f : Fit K C S H σ r) (hs : Same S H) (hm : ∀ b, m = some b → H b ≠ none) : StAt K C m S H r σ S H := by
  have eo := f.owns
  refine ⟨Stp.refl hs, f.len, fun i s h => (f.get i s h).2, fun l hl => (by rw [eo] at hl; cases hl), (by rw [eo]; exact List.nodup_nil), hm, fun i b h => ?_⟩
  have := (f.get i _ h).1
  cases this
theorem Grid.step (h : Grid H g ls rows) (k : ∀ a o, (a = g ∨ a ∈ ls) → H a = some o → H1 a = some o) : Grid H1 g ls rows :=
  ⟨k g _ (.inl rfl) h.hg, h.len, fun i l r h1 h2 => k l _ (.inr (List.mem_of_getElem? h1)) (h.hl i l r h1 h2), h.nd, h.gn⟩
/-- one row changes -/
theorem Grid.row (h : Grid H g ls rows) {i : Nat} {l : Addr} {r : List Nat} (hi : ls[i]? = some l) : Grid (upd H l (.lst (r.map nV))) g ls (rows.set i r) := by
  have hm : l ∈ ls := List.mem_of_getElem? hi
  refine ⟨by rw [upd_ne (fun z : g = l => h.gn (by rw [z]; exact hm))]; exact h.hg, by rw [List.length_set]; exact h.len, fun j l' r' h1 h2 => ?_, h.nd, h.gn⟩
  by_cases e : i = j
  · subst e
    rw [hi] at h1
    cases h1
    have hl : i < rows.length := by rw [← h.len]; exact (List.getElem?_eq_some_iff.mp hi).1
    rw [List.getElem?_set_self hl] at h2
    cases h2
    exact upd_same
  · rw [List.getElem?_set_ne e] at h2
    have hne : l' ≠ l := fun z => by
      obtain ⟨p1, p2⟩ := List.getElem?_eq_some_iff.mp hi
      obtain ⟨q1, q2⟩ := List.getElem?_eq_some_iff.mp h1
      exact e (nodup_inj h.nd p1 q1 (by rw [p2, q2, z]))
    rw [upd_ne hne]
    exact h.hl j l' r' h1 h2
theorem Grid.get (h : Grid H g ls rows) {i : Nat} {r : List Nat} (hr : rows[i]? = some r) : ∃ l, ls[i]? = some l ∧ H l = some (.lst (r.map nV)) := by
  have hi : i < ls.length := by rw [h.len]; exact (List.getElem?_eq_some_iff.mp hr).1
  exact ⟨ls[i], List.getElem?_eq_getElem hi, h.hl i _ r (List.getElem?_eq_getElem hi) hr⟩
theorem at_refs {ls : List Addr} {i : Nat} {l : Addr} (h : ls[i]? = some l) : atI (ls.map V.ref) (i : Int) = some (.ref l) := by
  rw [atI_nat (by rw [List.length_map]; exact (List.getElem?_eq_some_iff.mp h).1), List.getElem?_map, h] <;> rfl
theorem at_nVs {r : List Nat} {i : Nat} {n : Nat} (h : r[i]? = some n) : atI (r.map nV) (i : Int) = some (nV n) := by
  rw [atI_nat (by rw [List.length_map]; exact (List.getElem?_eq_some_iff.mp h).1), List.getElem?_map, h] <;> rfl
/-- rows[i][j] read -/
theorem rd_cell {σ : L2.St} {i j : Nat} {x y n : Nat} {r : List Nat} {Q : VK} (h : Grid H g ls rows) (s1 : σ[1]? = some (some (.ref g))) (s2 : σ[i]? = some (some (nV x))) (s3 : σ[j]? = some (some (nV y))) (hr : rows[x]? = some r) (hn : r[y]? = some n) (q : Q (nV n) H) :
    tOp (rIx K) (tOp (rIx K) (tVar 1) (tVar i)) (tVar j) σ H Q := by
  obtain ⟨l, h1, h2⟩ := h.get hr
  exact ⟨.ref g, s1, nV x, s2, .inl ⟨g, _, _, .ref l, rfl, rfl, .inl (.inl h.hg), at_refs h1, nV y, s3, .inl ⟨l, _, _, nV n, rfl, rfl, .inl (.inl h2), at_nVs hn, q⟩⟩⟩
/-- rows[i][j] = v -/
theorem st_cell {σ : L2.St} {i j : Nat} {x y n : Nat} {r : List Nat} {Q : L2.St → Hp → Prop} (h : Grid H g ls rows) (s1 : σ[1]? = some (some (.ref g))) (s2 : σ[i]? = some (some (nV x))) (s3 : σ[j]? = some (some (nV y))) (hr : rows[x]? = some r) (hy : y < r.length) (q : ∀ l, ls[x]? = some l → Grid (upd H l (.lst ((r.set y n).map nV))) g ls (rows.set x (r.set y n)) → Q σ (upd H l (.lst ((r.set y n).map nV)))) :
    gSub (tOp (rIx K) (tVar 1) (tVar i)) (tVar j) rSetL (nV n) σ H Q := by
  obtain ⟨l, h1, h2⟩ := h.get hr
  refine ⟨.ref g, s1, nV x, s2, .inl ⟨g, _, _, .ref l, rfl, rfl, .inl (.inl h.hg), at_refs h1, nV y, s3, l, _, _, y, rfl, rfl, h2, ixN_nat (by rw [List.length_map]; exact hy), ?_⟩⟩
  have := q l h1 (h.row h1)
  rw [List.map_set] at this
  exact this
/-- seen as stable -/
def vwG (S H : Hp) (g : Addr) (ls : List Addr) : Hp := fun a => if a = g ∨ a ∈ ls then H a else S a
def unG (S : Hp) (g : Addr) (ls : List Addr) : Hp := fun a => if a = g ∨ a ∈ ls then none else S a
theorem vwG_ss (hg : S g = none) (hl : ∀ l ∈ ls, S l = none) : Same S (vwG S H g ls) := fun a o q => by
  unfold vwG
  rw [if_neg fun z => ?_]
  · exact q
  · rcases z with z | z
    · rw [z, hg] at q; cases q
    · rw [hl a z] at q; cases q
theorem vwG_sh (hs : Same S H) : Same (vwG S H g ls) H := fun a o q => by
  unfold vwG at q
  split at q
  · exact q
  · exact hs a o q
theorem dpa_refs {S : Hp} : ∀ {ls : List Addr} {rows : List (List Nat)}, ls.length = rows.length → (∀ (i : Nat) l r, ls[i]? = some l → rows[i]? = some r → S l = some (.lst (r.map nV))) → DpAll K S (ls.map V.ref) (rows.map listN)
  | [], [], _, _ => .nil
  | [], r :: rows, e, _ => by cases e
  | l :: ls, [], e, _ => by cases e
  | l :: ls, r :: rows, e, h => .cons (.lst (.inl (.inl (h 0 l r rfl rfl))) (dpa_nV r)) (dpa_refs (by simpa using e) fun i l' r' h1 h2 => h (i + 1) l' r' h1 h2)
theorem Grid.dp (h : Grid H g ls rows) : Dp K (vwG S H g ls) (.ref g) (.list (rows.map listN)) := by
  refine .lst (.inl (.inl (by unfold vwG; rw [if_pos (.inl rfl)]; exact h.hg))) (dpa_refs h.len fun i l r h1 h2 => ?_)
  unfold vwG
  rw [if_pos (.inr (List.mem_of_getElem? h1))]
  exact h.hl i l r h1 h2
theorem backG (hg : S g = none) (hl : ∀ l ∈ ls, S l = none) (a : Stp none (vwG S H g ls) H S1 H1) : StD (fun _ => False) S H (unG S1 g ls) H1 := by
  refine ⟨fun b o q => ?_, fun b o q => ?_, fun b o _ q => a.same b o q, fun b q => ?_, a.dom⟩
  · unfold unG
    rw [if_neg fun z => ?_]
    · exact a.ss b o (vwG_ss hg hl b o q)
    · rcases z with z | z
      · rw [z, hg] at q; cases q
      · rw [hl b z] at q; cases q
  · unfold unG at q
    split at q
    · cases q
    · exact a.sh b o q
  · unfold unG
    split
    · rename_i z
      rcases z with z | z
      · rw [z, hg]
      · rw [hl b z]
    · rename_i z
      rw [a.old b q]
      unfold vwG
      rw [if_neg z]
theorem getD_row {rows : List (List Nat)} {i : Nat} {r : List Nat} (h : rows[i]? = some r) : atI (rows.map listN) (i : Int) = some (listN r) := by
  rw [atI_nat (by rw [List.length_map]; exact (List.getElem?_eq_some_iff.mp h).1), List.getElem?_map, h] <;> rfl
theorem at_natDs {r : List Nat} {i : Nat} {n : Nat} (h : r[i]? = some n) : atI (r.map natD) (i : Int) = some (natD n) := by
  rw [atI_nat (by rw [List.length_map]; exact (List.getElem?_eq_some_iff.mp h).1), List.getElem?_map, h] <;> rfl
theorem cl_LTurnOver (T : Bl K w mg C aW aP) (cD : Cl P w K mg base 1 "_law_draw" (PLDraw K C)) (d : Df K mg "_law_turn_over" sLTurnOver ["_law_bag_here", "_law_rows_here", "_law_size"]) : Cl P w K mg base 2 "_law_turn_over" (PLTurnOver K C) := by
  obtain ⟨f, fd, F, hm, bi⟩ := d.ex
  refine ⟨f, fd, _, F.ok scLTurnOver (fun vs H Q E h => ?_) (fun cdv A outer s H vs Q E hr h => ?_), hm, F.kp, bi⟩
  · obtain ⟨S, b, g, size, ls, rows, rfl, _⟩ := h
    rfl
  · obtain ⟨S, b, g, size, ls, rows, rfl, _, _, hs, hb, hSb, hSg, hSl, hG, hrl, hok, s2, s5, nbl, nbg, q⟩ := h
    refine ⟨_, dvLTurnOver T cD (by omega) hr, ?_⟩
    have f0 : Fit K C S H (L2.start NLTurnOver [.ref b, .ref g, nV size]) [none, none, some (.d (natD size)), none, none, none, none, none, none] :=
      .no (.no (.it rfl (Dp.int _) (.no (.no (.no (.no (.no (.no .nil))))))))
    have st0 := (f0.stm (m := some b) hs (fun c e => by cases e; exact bag_ne hb)).put (i := 0) (v := .ref b) (s := .bag b) rfl (fun c e => by cases e; rfl) ⟨rfl, hSb, hb⟩
    have dr : ∀ {x3 x4 x5 x6 x7 x8 : Option Sh}, EvX K C (some b) (tCall (PLDraw K C) [] L2.E0 (tCons (tVar 0) (tCons (tVar 2) tNil))) [some (.bag b), none, some (.d (natD size)), x3, x4, x5, x6, x7, x8] (fun z => ∃ d, z = .d (natD d) ∧ d < size) := er_draw rfl (er_var rfl rfl) (by omega) (by omega)
    have dr' : ∀ {x3 x4 x5 x6 x7 x8 : Option Sh}, EvX K C (some b) (tCall (PLDraw K C) [] L2.E0 (tCons (tVar 0) (tCons (tVar 2) tNil))) [some (.bag b), none, some (.d (natD size)), x3, x4, x5, x6, x7, x8] (fun z => ∃ x, z = .d x ∧ ∃ d, x = natD d ∧ d < size) := dr.imp fun s ⟨d, e, h⟩ => ⟨_, e, d, rfl, h⟩
    have hA := ea2X (P1 := fun x => ∃ d, x = natD d ∧ d < size) (P2 := fun x => ∃ d, x = natD d ∧ d < size) (dr' (x3 := none) (x4 := none) (x5 := none) (x6 := none) (x7 := none) (x8 := none)) dr'
    dsimp only [tLTurnOver, tSeq, tAsg, tTup]
    refine hA _ _ _ _ _ st0 _ fun us ss S1 H1 ⟨x, y, e, ⟨one, e1, ho1⟩, ⟨oth, e2, ho2⟩⟩ st1 hus => ?_
    subst e e1 e2
    cases hus with
    | cons h1 hus =>
      cases hus with
      | cons h2 hus =>
        cases hus
        have h1' : Dp K S1 _ (natD one) := h1
        have h2' : Dp K S1 _ (natD oth) := h2
        cases h1'
        cases h2'
        refine ⟨(show 2 ≤ sizeLine by decide), fun p hp => ⟨p, _, rfl, .inl (.inl upd_same), rfl, _, _, rfl, _, _, rfl, rfl, ?_⟩⟩
        dsimp only [gName, List.set, L2.start]
        have st1' : Stp (some b) S H S1 (upd H1 p (.tup [.int (one : Int), .int (oth : Int)])) := st1.trans (Stp.lay st1.sh hp)
        obtain ⟨H2, eH2⟩ : ∃ H2, H2 = upd H1 p (.tup [.int (one : Int), .int (oth : Int)]) := ⟨_, rfl⟩
        rw [← eH2] at st1' ⊢
        dsimp only [tSeq, tAsg]
        show tCall _ _ _ _ [some (.ref b), some (.ref g), some (nV size), some (nV one), some (nV oth), none, none, none, none] H2 _
        have f1 : Fit K C S1 H2 [some (.ref b), some (.ref g), some (nV size), some (nV one), some (nV oth), none, none, none, none] [none, none, some (.d (natD size)), none, none, none, none, none, none] :=
          .no (.no (.it rfl (Dp.int _) (.no (.no (.no (.no (.no (.no .nil))))))))
        have hb2 : BagOk H2 b := bag_step st1' hb
        have hSb1 : S1 b = none := (st1'.old b (bag_ne hb)).trans hSb
        have sx := (f1.stm (m := some b) st1'.sh (fun c e => by cases e; exact bag_ne hb2)).put (i := 0) (v := .ref b) (s := .bag b) rfl (fun c e => by cases e; rfl) ⟨rfl, hSb1, hb2⟩
        refine dr _ _ _ _ _ sx _ fun u3 s3 S3 H3 ⟨col, e3, ho3⟩ st3 hu3 => ?_
        subst e3
        have hu3' : Dp K S3 u3 (natD col) := hu3
        cases hu3'
        dsimp only [gName, List.set]
        have tot := st1'.trans st3
        -- the rows so far
        have nb : ∀ a, (a = g ∨ a ∈ ls) → a ≠ b := fun a ha z => by
          rcases ha with y | y
          · exact nbg (by rw [← z, y])
          · exact nbl (by rw [← z]; exact y)
        have hG3 : Grid H3 g ls rows := hG.step fun a o ha e => tot.hh a o (fun z => nb a ha (Option.some.inj z).symm) e
        have hb3 : BagOk H3 b := bag_step tot hb
        have glive : ∀ a, (a = g ∨ a ∈ ls) → H a ≠ none := fun a ha => by
          rcases ha with y | y
          · rw [y, hG.hg]; exact fun z => nomatch z
          · obtain ⟨i, hi⟩ := List.mem_iff_getElem?.mp y
            have hi' : i < rows.length := by rw [← hG.len]; exact (List.getElem?_eq_some_iff.mp hi).1
            rw [hG.hl i a _ hi (List.getElem?_eq_getElem hi')]
            exact fun z => nomatch z
        have gS : ∀ a, (a = g ∨ a ∈ ls) → S a = none := fun a ha => by
          rcases ha with y | y
          · rw [y]; exact hSg
          · exact hSl a y
        have base3 : StD (fun a => a = b ∨ a ∈ ls) S H S3 H3 := ⟨tot.ss, tot.sh, fun a o hna e => tot.hh a o (fun z => hna (.inl (Option.some.inj z).symm)) e, tot.old, tot.dom⟩
        obtain ⟨r1, hr1⟩ : ∃ r, rows[one]? = some r := ⟨_, List.getElem?_eq_getElem (by omega)⟩
        obtain ⟨r2, hr2⟩ : ∃ r, rows[oth]? = some r := ⟨_, List.getElem?_eq_getElem (by omega)⟩
        have ok1 := hok r1 (List.mem_of_getElem? hr1)
        have ok2 := hok r2 (List.mem_of_getElem? hr2)
        have lr1 := row_len ok1
        refine ⟨nV one, rfl, nV oth, rfl, natD one, natD oth, .int _, .int _, shaped_int _, shaped_int _, _, rfl, ?_⟩
        rw [eqv_nat]
        by_cases hne : one = oth
        · rw [decide_eq_true hne]
          exact iteF (q S3 H3 rows base3 hb3 hG3 hrl hok)
        · rw [decide_eq_false hne]
          refine iteT ?_
          obtain ⟨b0, hb0⟩ : ∃ n, r1[col]? = some n := ⟨_, List.getElem?_eq_getElem (by omega)⟩
          refine rd_cell hG3 rfl rfl rfl hr1 hb0 ?_
          dsimp only [List.set]
          refine ⟨nV size, rfl, size, rfl, by omega, by omega, ?_⟩
          have isz : ((size : Int)).toNat = size := Int.toNat_natCast size
          rw [isz]
          refine ⟨fun i mm σ H4 => mm = size - i ∧ i ≤ size ∧ ∃ (S4 : Hp) (A B : List Nat) (c : Nat) (y7 y8 : Option V), σ = [some (.ref b), some (.ref g), some (nV size), some (nV one), some (nV oth), some (nV c), some (nV b0), y7, y8] ∧ StD (fun a => a = b ∨ a ∈ ls) S H S4 H4 ∧ BagOk H4 b ∧ Grid H4 g ls ((rows.set one A).set oth B) ∧ TO size r1 r2 b0 i A B c,
            ⟨size, rfl, Nat.zero_le _, S3, r1, r2, col, none, none, rfl, base3, hb3, ?_, to_start ok1 ok2 (by omega) hb0⟩, ?_⟩
          · have e1 : (rows.set one r1).set oth r2 = rows := by
              apply List.ext_getElem?
              intro k
              rw [List.getElem?_set, List.getElem?_set, List.length_set]
              by_cases z1 : oth = k
              · subst z1
                rw [if_pos rfl, if_pos (by omega)]
                exact hr2.symm
              · rw [if_neg z1]
                by_cases z2 : one = k
                · subst z2
                  rw [if_pos rfl, if_pos (by omega)]
                  exact hr1.symm
                · rw [if_neg z2]
            rw [e1]
            exact hG3
          rintro i mm σ H4 ⟨rfl, hi, S4, A, B, c, y7, y8, rfl, sd4, hb4, hG4, to⟩
          have hlt := to_lt to
          refine .inr ⟨hlt, fun σ H5 => ∃ (S4 : Hp) (A B : List Nat) (c : Nat) (y7 y8 : Option V), σ = [some (.ref b), some (.ref g), some (nV size), some (nV one), some (nV oth), some (nV c), some (nV b0), y7, y8] ∧ StD (fun a => a = b ∨ a ∈ ls) S H S4 H5 ∧ BagOk H5 b ∧ Grid H5 g ls ((rows.set one A).set oth B) ∧ TO size r1 r2 b0 (i + 1) A B c, fun σ H5 z => ⟨size - (i + 1), by omega, rfl, hlt, z⟩, fun x H5 hy => ?_⟩
          obtain ⟨rfl, rfl⟩ := hy
          dsimp only [gName, List.set]
          obtain ⟨v, u, hv, hu⟩ := to_cell to
          have lA := to.la
          have lB := to.lb
          have lc := to.hc
          have hrA : ((rows.set one A).set oth B)[one]? = some A := by
            rw [List.getElem?_set_ne (fun z => hne z.symm), List.getElem?_set_self (by omega)]
          have hrB : ((rows.set one A).set oth B)[oth]? = some B := by
            rw [List.getElem?_set_self (by rw [List.length_set]; omega)]
          refine rd_cell hG4 rfl rfl rfl hrB hv (rd_cell hG4 rfl rfl rfl hrA hu ⟨(show 2 ≤ sizeLine by decide), fun p5 hp5 => ⟨p5, _, rfl, .inl (.inl upd_same), rfl, _, _, rfl, ?_⟩⟩)
          have gl4 : ∀ a, (a = g ∨ a ∈ ls) → H5 a ≠ none := fun a ha => sd4.dom a (glive a ha)
          have np5 : ∀ a, H5 a ≠ none → a ≠ p5 := fun a ha z => ha (by rw [z]; exact hp5)
          have hG5 : Grid (upd H5 p5 (.tup [nV v, nV u])) g ls ((rows.set one A).set oth B) := hG4.step fun a o ha e => by
            rw [upd_ne (np5 a (gl4 a ha))]
            exact e
          have sd5 := sd4.trans (StD.of (D := fun a => a = b ∨ a ∈ ls) (Stp.lay (m := none) (o := .tup [nV v, nV u]) sd4.sh hp5))
          have hb5 : BagOk (upd H5 p5 (.tup [nV v, nV u])) b := by
            obtain ⟨g', s', n', z1, z2⟩ := hb4
            exact ⟨g', s', n', by rw [upd_ne (np5 b (by rw [z1]; exact fun z => nomatch z))]; exact z1, z2⟩
          refine st_cell hG5 rfl rfl rfl hrA (by omega) fun l1 hl1 hG6 => ⟨_, _, rfl, ?_⟩
          have hm1 : l1 ∈ ls := List.mem_of_getElem? hl1
          have hrB2 : (((rows.set one A).set oth B).set one (A.set c v))[oth]? = some B := by
            rw [List.getElem?_set_ne hne]
            exact hrB
          have chg : ∀ {S6 H6 : Hp} {l : Addr} {o : HO}, l ∈ ls → StD (fun a => a = b ∨ a ∈ ls) S H S6 H6 → BagOk H6 b → StD (fun a => a = b ∨ a ∈ ls) S H S6 (upd H6 l o) ∧ BagOk (upd H6 l o) b := fun {S6 H6 l o} hl sd hb => by
            have hS6 : S6 l = none := (sd.old l (glive l (.inr hl))).trans (gS l (.inr hl))
            refine ⟨sd.trans (StD.chg sd.sh (.inr hl) hS6 (sd.dom l (glive l (.inr hl)))), ?_⟩
            obtain ⟨g', s', n', z1, z2⟩ := hb
            exact ⟨g', s', n', by rw [upd_ne (fun z : b = l => nbl (by rw [z]; exact hl))]; exact z1, z2⟩
          obtain ⟨sd6, hb6⟩ := chg (o := .lst ((A.set c v).map nV)) hm1 sd5 hb5
          refine st_cell hG6 rfl rfl rfl hrB2 (by omega) fun l2 hl2 hG7 => ⟨rfl, ?_⟩
          have hm2 : l2 ∈ ls := List.mem_of_getElem? hl2
          obtain ⟨sd7, hb7⟩ := chg (o := .lst ((B.set c u).map nV)) hm2 sd6 hb6
          have erw : (((rows.set one A).set oth B).set one (A.set c v)).set oth (B.set c u) = (rows.set one (A.set c v)).set oth (B.set c u) := by
            apply List.ext_getElem?
            intro k
            simp only [List.getElem?_set, List.length_set]
            by_cases z1 : oth = k
            · simp only [if_pos z1]
            · by_cases z2 : one = k
              · simp only [if_neg z1, if_pos z2]
              · simp only [if_neg z1, if_neg z2]
          rw [erw] at hG7
          obtain ⟨H7, eH7⟩ : ∃ H7, H7 = upd (upd (upd H5 p5 (.tup [nV v, nV u])) l1 (.lst ((A.set c v).map nV))) l2 (.lst ((B.set c u).map nV)) := ⟨_, rfl⟩
          rw [← eH7] at hG7 sd7 hb7 ⊢
          have lo1 : one < rows.length := by omega
          have lo2 : oth < rows.length := by omega
          have hrA7 : ((rows.set one (A.set c v)).set oth (B.set c u))[one]? = some (A.set c v) := by
            rw [List.getElem?_set_ne (fun z => hne z.symm), List.getElem?_set_self lo1]
          have hcA7 : (A.set c v)[c]? = some v := List.getElem?_set_self (by omega)
          refine rd_cell hG7 rfl rfl rfl hrA7 hcA7 ⟨nV b0, rfl, natD v, natD b0, .int _, .int _, shaped_int _, shaped_int _, _, rfl, ?_⟩
          rw [eqv_nat]
          by_cases hvb : v = b0
          · rw [decide_eq_true hvb]
            refine iteT ?_
            rw [hvb] at hG7 hv
            obtain ⟨t1, t2⟩ := to_break to hv hu
            refine q S4 H7 _ sd7 hb7 hG7 (by rw [List.length_set, List.length_set]; exact hrl) fun r hr => ?_
            obtain ⟨k, hk⟩ := List.mem_iff_getElem?.mp hr
            simp only [List.getElem?_set, List.length_set] at hk
            by_cases z1 : oth = k
            · rw [if_pos z1, if_pos lo2] at hk
              rw [← Option.some.inj hk]
              exact t2
            · rw [if_neg z1] at hk
              by_cases z2 : one = k
              · rw [if_pos z2, if_pos lo1] at hk
                rw [← Option.some.inj hk]
                exact t1
              · rw [if_neg z2] at hk
                exact hok r (List.mem_of_getElem? hk)
          · rw [decide_eq_false hvb]
            refine iteF ?_
            obtain ⟨⟨k1, k2, k3, k4⟩, nxt⟩ := to_next to ok2 hv hu hvb
            have gS4 : S4 g = none := (sd4.old g (glive g (.inl rfl))).trans hSg
            have lS4 : ∀ l ∈ ls, S4 l = none := fun l hl => (sd4.old l (glive l (.inr hl))).trans (hSl l hl)
            have f7 : Fit K C (vwG S4 H7 g ls) H7 [some (.ref b), some (.ref g), some (nV size), some (nV one), some (nV oth), some (nV c), some (nV b0), some (.int (0 + (i : Int))), y8] [none, some (.d (.list (((rows.set one (A.set c v)).set oth (B.set c u)).map listN))), some (.d (natD size)), some (.d (natD one)), none, some (.d (natD c)), none, none, none] :=
              .no (.it rfl hG7.dp (.it rfl (Dp.int _) (.it rfl (Dp.int _) (.no (.it rfl (Dp.int _) (.no (.no (.no .nil))))))))
            have st7 := f7.stm (m := none) (vwG_sh sd7.sh) (fun b e => nomatch e)
            have cell : ∀ {x8 : Option Sh} {j y n : Nat}, (A.set c v)[y]? = some n → [none, some (.d (.list (((rows.set one (A.set c v)).set oth (B.set c u)).map listN))), some (.d (natD size)), some (.d (natD one)), none, some (.d (natD c)), none, none, x8][j]? = some (some (.d (natD y))) → EvX K C none (tOp (rIx K) (tOp (rIx K) (tVar 1) (tVar 3)) (tVar j)) [none, some (.d (.list (((rows.set one (A.set c v)).set oth (B.set c u)).map listN))), some (.d (natD size)), some (.d (natD one)), none, some (.d (natD c)), none, none, x8] (fun z => z = .d (natD n)) := fun hy hj =>
              er_op (er_op (er_var rfl rfl) (er_var rfl rfl) (rx_ixL (getD_row hrA7))) (er_var hj rfl) (rx_ixL (at_natDs hy))
            have lA7 : (A.set c v).length = size := by rw [List.length_set]; exact lA
            have lst := er_ownD (eo_lcF (K := K) (C := C) (m := none) (r := [none, some (.d (.list (((rows.set one (A.set c v)).set oth (B.set c u)).map listN))), some (.d (natD size)), some (.d (natD one)), none, some (.d (natD c)), none, none, none]) (wi := iRng1 (tCons (tVar 2) tNil)) (g := gName 8) (t := tAnd (tTest (tOp (rNeD K) (tVar 8) (tVar 5))) (tTest (tOp (rEqD K) (tOp (rIx K) (tOp (rIx K) (tVar 1) (tVar 3)) (tVar 8)) (tOp (rIx K) (tOp (rIx K) (tVar 1) (tVar 3)) (tVar 5))))) (te := tVar 8) (ds := rangeD 0 size) (vs := [8]) (fun k => !decide (k = c) && decide ((A.set c v).getD k 0 = v)) (fun k => natD k) (it_rangeN (er_var rfl rfl) (by omega)) (by rw [range_len]; omega) fun k d hd => by
              obtain ⟨rfl, hk⟩ := range_at hd
              have hk7 : (A.set c v)[k]? = some ((A.set c v).getD k 0) := by
                rw [List.getD_eq_getElem?_getD, List.getElem?_eq_getElem (by rw [lA7]; exact hk)] <;> rfl
              refine ⟨_, _, gt_nameD, fun _ h => h, et_and (et_neN (a := k) (b := c) (er_var rfl rfl) (er_var rfl rfl)) fun _ => et_eqN (cell hk7 rfl) (cell hcA7 rfl), fun _ => er_var rfl rfl⟩)
            rw [range_len] at lst
            have hany : anyF size (fun k => !decide (k = c) && decide ((A.set c v).getD k 0 = v)) = true := by
              unfold anyF
              refine List.any_eq_true.mpr ⟨k1, List.mem_range.mpr k2, ?_⟩
              rw [decide_eq_false k3, List.getD_eq_getElem?_getD, k4]
              simp
            have hne2 : givenD (rangeD 0 size) (fun k => !decide (k = c) && decide ((A.set c v).getD k 0 = v)) (fun k => natD k) size ≠ [] := fun z => by
              rw [given_nil'.mp z] at hany
              cases hany
            obtain ⟨y, ys, ey⟩ := List.exists_cons_of_ne_nil hne2
            have hy0 : ∃ k, y = natD k ∧ k < size ∧ k ≠ c ∧ (A.set c v)[k]? = some v := by
              have hm0 : y ∈ givenD (rangeD 0 size) (fun k => !decide (k = c) && decide ((A.set c v).getD k 0 = v)) (fun k => natD k) size := by rw [ey]; exact List.mem_cons_self
              unfold givenD at hm0
              obtain ⟨k, hk, rfl⟩ := List.mem_map.mp hm0
              obtain ⟨h1, h2⟩ := List.mem_filter.mp hk
              have h1 := List.mem_range.mp h1
              rw [Bool.and_eq_true, decide_eq_true_eq] at h2
              refine ⟨k, rfl, h1, by simpa using h2.1, ?_⟩
              rw [List.getElem?_eq_getElem (by rw [lA7]; exact h1)]
              have := h2.2
              rw [List.getD_eq_getElem?_getD, List.getElem?_eq_getElem (by rw [lA7]; exact h1)] at this
              exact congrArg some this
            obtain ⟨k, rfl, hk1, hk2, hk3⟩ := hy0
            have ev := er_op lst (er_int 0) (rx_ixL (x := natD k) (at_head (by rw [ey] <;> rfl)))
            dsimp only [tSeq, tAsg]
            refine ev _ _ _ _ _ st7 _ fun vv ss S8 H8 e8 st8 hv8 => ?_
            subst e8
            have hv8' : Dp K S8 vv (natD k) := hv8
            cases hv8'
            dsimp only [gName, List.set]
            have bk := backG gS4 lS4 st8
            refine ⟨unG S8 g ls, A.set c v, B.set c u, k, some (.int (0 + (i : Int))), y8, rfl, sd7.trans (bk.wide fun _ z => z.elim), ?_, hG7.step fun a o _ e => bk.hh a o (fun z => z) e, nxt k hk1 hk2 hk3⟩
            obtain ⟨g', s', n', z1, z2⟩ := hb7
            exact ⟨g', s', n', bk.hh b _ (fun z => z) z1, z2⟩
end
end RD

end
section
set_option linter.all false
set_option maxRecDepth 100000
set_option maxHeartbeats 4000000
/-! B4: table. -/
namespace RD
open PySem PySem.Spec PyProof.Rows L2
theorem lin_all : ((List.range 6).all fun size => (List.range 6).all fun tm => (List.range 6).all fun a => !decide (2 ≤ size) || !decide (divN 200 tm size = 1) || !decide (1 ≤ tm) || !decide (a < size) || ((List.range size).map fun z => (a + tm * z) % size).isPerm (List.range size)) = true := by decide +kernel
theorem lin_perm {size tm a : Nat} (h2 : 2 ≤ size) (h5 : size ≤ 5) (h1 : 1 ≤ tm) (ht : tm ≤ size) (hd : divN 200 tm size = 1) (ha : a < size) : ((List.range size).map fun z => (a + tm * z) % size).Perm (List.range size) := by
  have h := lin_all
  rw [List.all_eq_true] at h
  have h := h size (List.mem_range.mpr (by omega))
  rw [List.all_eq_true] at h
  have h := h tm (List.mem_range.mpr (by omega))
  rw [List.all_eq_true] at h
  have h := h a (List.mem_range.mpr (by omega))
  rw [decide_eq_true h2, decide_eq_true hd, decide_eq_true h1, decide_eq_true ha] at h
  exact List.isPerm_iff.mp (by simpa using h)
theorem div_one : ((List.range 6).all fun size => !decide (2 ≤ size) || decide (divN 200 1 size = 1)) = true := by decide +kernel
theorem div1 {size : Nat} (h2 : 2 ≤ size) (h5 : size ≤ 5) : divN 200 1 size = 1 := by
  have h := div_one
  rw [List.all_eq_true] at h
  have h := h size (List.mem_range.mpr (by omega))
  rw [decide_eq_true h2] at h
  simpa using h
theorem map_getD (l : List Nat) : (List.range l.length).map (fun i => l.getD i 0) = l := by
  apply List.ext_getElem?
  intro i
  rw [List.getElem?_map]
  by_cases h : i < l.length
  · rw [List.getElem?_range h, List.getElem?_eq_getElem h]
    show some (l.getD i 0) = _
    rw [List.getD_eq_getElem?_getD, List.getElem?_eq_getElem h] <;> rfl
  · rw [List.getElem?_eq_none (by rw [List.length_range]; omega), List.getElem?_eq_none (by omega)] <;> rfl
def rowF (size tm : Nat) (p0 p1 p2 : List Nat) (x : Nat) : List Nat := (List.range size).map fun y => p2.getD ((p0.getD x 0 + tm * p1.getD y 0) % size) 0
theorem rowF_ok {size tm : Nat} {p0 p1 p2 : List Nat} {x : Nat} (h2 : 2 ≤ size) (h5 : size ≤ 5) (h1 : 1 ≤ tm) (ht : tm ≤ size) (hd : divN 200 tm size = 1) (k0 : rowOk size p0) (k1 : rowOk size p1) (k2 : rowOk size p2) (hx : x < size) : rowOk size (rowF size tm p0 p1 p2 x) := by
  have ha : p0.getD x 0 < size := by
    have l0 := row_len k0
    rw [List.getD_eq_getElem?_getD, List.getElem?_eq_getElem (by omega)]
    exact row_lt k0 _
  unfold rowOk rowF
  have e1 : ((List.range size).map fun y => p2.getD ((p0.getD x 0 + tm * p1.getD y 0) % size) 0) = p1.map fun z => p2.getD ((p0.getD x 0 + tm * z) % size) 0 := by
    have := map_getD p1
    rw [row_len k1] at this
    conv => rhs; rw [← this]
    rw [List.map_map] <;> rfl
  rw [e1]
  refine (k1.map _).trans ?_
  have e2 : ((List.range size).map fun z => p2.getD ((p0.getD x 0 + tm * z) % size) 0) = ((List.range size).map fun z => (p0.getD x 0 + tm * z) % size).map fun i => p2.getD i 0 := by rw [List.map_map] <;> rfl
  rw [e2]
  refine ((lin_perm h2 h5 h1 ht hd ha).map _).trans ?_
  have := map_getD p2
  rw [row_len k2] at this
  rw [this]
  exact k2
section
variable {P : Program} {w : World} {K : PySem.W.Frag} {mg : Str → Option Value} {base : Heap} {C aW aP : Addr} {m : Option Addr} {r : Rho} {S0 H0 S H S1 H1 : Hp} {σ : L2.St} {g : Addr} {ls : List Addr} {rows : List (List Nat)} {wi : TI} {tg : TG} {te : TE} {b : Addr}
/-- a list of new lists -/
theorem lc_grid {ds : List PyData} {vs : List Nat} (rowsF : Nat → List Nat) (h : ItX K C m wi r ds) (hz : ds.length ≤ 100)
    (hs : ∀ (i : Nat) d, ds[i]? = some d → ∃ r2 js, GT K C m tg (.d d) (wipeR r vs) r2 js ∧ (∀ j ∈ js, j ∈ vs) ∧ EvO K C m te r2 (fun z => z = (rowsF i).map natD)) (st : StAt K C m S0 H0 r σ S H) (Q : VK)
    (q : ∀ gg ls S' H', Stp m S H S' H' → H gg = none → S' gg = none → (∀ l ∈ ls, H l = none ∧ S' l = none) → Grid H' gg ls ((List.range ds.length).map rowsF) → Q (.ref gg) H') : tLc wi tg tYes te vs σ H Q := by
  refine h S0 H0 σ S H st _ fun J S1 H1 st1 hw D hD => ?_
  have x1 := (st.step st1)
  obtain ⟨n0, nS, nm, nr⟩ := x1.new hD
  have nrw : D ∉ owns (wipeR r vs) := by
    have : ∀ ws : List Nat, (owns (wipeR r ws)).Sublist (owns r) := by
      intro ws
      induction ws with
      | nil => exact List.Sublist.refl _
      | cons w ws ih => exact (owns_set_sub (x := none) rfl (wipeR r ws) w).trans ih
    exact fun z => nr ((this vs).subset z)
  refine ⟨fun i n H' => n = ds.length - i ∧ i ≤ ds.length ∧ ∃ (S' : Hp) (ls : List Addr), StAt K C m S1 H0 (wipeR r vs) (L2.wipe σ vs) S' H' ∧ S' D = none ∧ H' D = some (.lst (ls.map V.ref)) ∧ ls.length = i ∧ (∀ l ∈ ls, H1 l = none ∧ S' l = none) ∧ ls.Nodup ∧ D ∉ ls ∧ (∀ (j : Nat) l, ls[j]? = some l → H' l = some (.lst ((rowsF j).map nV))) ∧ Stp m S1 H1 S' H',
    ⟨_, rfl, Nat.zero_le _, S1, [], (x1.wipe vs).rebase.step (Stp.lay x1.sh hD), nS, upd_same, rfl, (fun _ h => by cases h), List.nodup_nil, List.not_mem_nil, fun j l h => by simp at h, Stp.lay x1.sh hD⟩, ?_⟩
  rintro i n H' ⟨rfl, hi, S', ls, y, e1, e2, hl, hnew, hnd, hDl, hrows, e4⟩
  by_cases hlt : i < ds.length
  · obtain ⟨r2, js, hg, hj, ht⟩ := hs i ds[i] (List.getElem?_eq_getElem hlt)
    refine .inr ⟨hw.1 i S' H' y.stp.ss y.stp.sh hlt, fun H2 => ∃ (S' : Hp) (ls : List Addr), StAt K C m S1 H0 (wipeR r vs) (L2.wipe σ vs) S' H2 ∧ S' D = none ∧ H2 D = some (.lst (ls.map V.ref)) ∧ ls.length = i + 1 ∧ (∀ l ∈ ls, H1 l = none ∧ S' l = none) ∧ ls.Nodup ∧ D ∉ ls ∧ (∀ (j : Nat) l, ls[j]? = some l → H2 l = some (.lst ((rowsF j).map nV))) ∧ Stp m S1 H1 S' H2, fun H2 p => ⟨ds.length - (i + 1), by omega, rfl, hlt, p⟩, fun v H'' hy => ?_⟩
    obtain ⟨S'', sty, hdp⟩ := hw.2.2 i ds[i] S' H' (List.getElem?_eq_getElem hlt) y.stp.ss y.stp.sh v H'' hy
    have y2 := y.step sty.wide
    have dn : H' D ≠ none := by rw [e2]; exact fun z => nomatch z
    refine hg S1 H0 _ S'' H'' v y2 hdp _ fun σ2 z2 hw2 => ⟨by rw [hw2 vs hj, wipe_wipe fun _ h => h], ?_⟩
    show te σ2 H'' _
    refine ht S1 H0 σ2 S'' H'' z2 _ fun l us xs S4 H4 ex hln st4 hS4 hH4 hd4 => ?_
    subst ex
    have eus := nV_of hd4
    subst eus
    have f3 : H'' D = some (.lst (ls.map V.ref)) := sty.hh D _ (fun z => nomatch z) e2
    have g3 : S'' D = none := (sty.old D dn).trans e1
    have f4 : H4 D = some (.lst (ls.map V.ref)) := st4.hh D _ nm f3
    have g4 : S4 D = none := (st4.old D (by rw [f3]; exact fun z => nomatch z)).trans g3
    have tot4 := sty.wide.trans st4
    have lD : l ≠ D := fun z => by rw [z, f3] at hln; cases hln
    have lold : ∀ l' ∈ ls, H' l' ≠ none ∧ l' ≠ D ∧ l' ≠ l ∧ m ≠ some l' := fun l' hl' => by
      obtain ⟨j, hj'⟩ := List.mem_iff_getElem?.mp hl'
      have hh := hrows j l' hj'
      have hne : H' l' ≠ none := by rw [hh]; exact fun z => nomatch z
      exact ⟨hne, fun z => hDl (by rw [← z]; exact hl'), fun z => by
        have := sty.dom l' hne
        rw [z] at this
        exact this hln, (x1.new (hnew l' hl').1).2.2.1⟩
    have hl1 : H1 l = none := none_of (e4.trans sty.wide) hln
    refine ⟨ls.map V.ref, f4, sz_lt (by rw [List.length_map, hl]; omega), S4, ls ++ [l], ((y2.step st4).mut n0 g4 nm nrw), g4, by rw [List.map_append]; exact upd_same, by rw [List.length_append, hl] <;> rfl, fun l' hl' => ?_, ?_, ?_, fun j l' hj' => ?_, (e4.trans tot4).mut hD g4 nm⟩
    · rcases List.mem_append.mp hl' with c | c
      · obtain ⟨a1, _, _, _⟩ := lold l' c
        exact ⟨(hnew l' c).1, (tot4.old l' a1).trans (hnew l' c).2⟩
      · rw [List.mem_singleton.mp c]
        exact ⟨hl1, hS4⟩
    · exact List.nodup_append.mpr ⟨hnd, List.nodup_cons.mpr ⟨List.not_mem_nil, List.nodup_nil⟩, fun a ha b' hb' => by
        rw [List.mem_singleton.mp hb']
        exact (lold a ha).2.2.1⟩
    · intro z
      rcases List.mem_append.mp z with c | c
      · exact hDl c
      · exact lD (List.mem_singleton.mp c).symm
    · by_cases c : j < ls.length
      · rw [List.getElem?_append_left c] at hj'
        obtain ⟨a1, a2, a3, a4⟩ := lold l' (List.mem_of_getElem? hj')
        rw [upd_ne a2]
        exact tot4.hh l' _ a4 (hrows j l' hj')
      · rw [List.getElem?_append_right (by omega)] at hj'
        have hjj : j - ls.length = 0 := by
          by_cases z : j - ls.length = 0
          · exact z
          · rw [List.getElem?_eq_none (by show 1 ≤ _; omega)] at hj'
            cases hj'
        rw [hjj] at hj'
        cases hj'
        rw [upd_ne lD]
        have : j = i := by omega
        rw [this]
        exact hH4
  · have e : i = ds.length := by omega
    refine .inl ⟨by rw [e]; exact hw.2.1 S' H' y.stp.ss y.stp.sh, q D ls S' H' (st1.trans e4) (none_of st1 hD) e1 (fun l hl' => ⟨none_of st1 (hnew l hl').1, (hnew l hl').2⟩) ⟨e2, by rw [hl, List.length_map, List.length_range, e], fun j l r' h1 h2 => ?_, hnd, hDl⟩⟩
    have hj : j < ds.length := by
      have := (List.getElem?_eq_some_iff.mp h1).1
      omega
    rw [List.getElem?_map, List.getElem?_range hj] at h2
    cases h2
    exact hrows j l h1
/-- a step in which the bag and new lists may change -/
theorem StAt.stepD (x : StAt K C (some b) S0 H0 r σ S H) (ho : owns r = []) (sd : StD (fun a => a = b ∨ a ∈ ls) S H S1 H1) (hb : BagOk H1 b) (hn : ∀ l ∈ ls, H0 l = none) : StAt K C (some b) S0 H0 r σ S1 H1 := by
  refine ⟨⟨x.stp.ss.trans sd.ss, sd.sh, fun a o hm e => sd.hh a o (fun z => ?_) (x.stp.hh a o hm e), fun a e => (sd.old a (x.stp.dom a e)).trans (x.stp.old a e), fun a e => sd.dom a (x.stp.dom a e), fun c hc _ => by cases hc; exact hb⟩, x.len, fun i s e => ?_, x.fr, x.nd, x.mb, x.bm⟩
  · rcases z with z | z
    · exact hm (by rw [z])
    · rw [hn a z] at e
      cases e
  · obtain ⟨v, g1, g2⟩ := x.sl i s e
    refine ⟨v, g1, ?_⟩
    cases s with
    | d _ => exact dp_mono sd.ss g2
    | tl _ => exact tl_mono sd.ss g2
    | clo _ => exact clo_mono sd.ss g2
    | own l xs =>
      have := own_mem e
      rw [ho] at this
      cases this
    | bag c =>
      obtain ⟨e1, e2, e3⟩ := g2
      have hc := x.bm i c e
      cases hc
      exact ⟨e1, (sd.old b (bag_ne e3)).trans e2, hb⟩
/-- new lists of lists are kept from now on -/
theorem StAt.frzG (x : StAt K C m S0 H0 r σ S H) (ho : owns r = []) (hG : Grid H g ls rows) (hg : S g = none) (hl : ∀ l ∈ ls, S l = none) (hg0 : H0 g = none) (hl0 : ∀ l ∈ ls, H0 l = none) {i : Nat} (hi : σ[i]? = some (some (.ref g))) (hbag : ∀ c, m = some c → ¬ (c = g ∨ c ∈ ls)) :
    StAt K C m S0 H0 (r.set i (some (.d (.list (rows.map listN))))) σ (vwG S H g ls) H := by
  have ss := vwG_ss (H := H) hg hl
  have y : StAt K C m S0 H0 r σ (vwG S H g ls) H := by
    refine ⟨⟨x.stp.ss.trans ss, vwG_sh x.stp.sh, x.stp.hh, fun a e => ?_, x.stp.dom, x.stp.bag⟩, x.len, fun i s e => ?_, x.fr, x.nd, x.mb, x.bm⟩
    · unfold vwG
      rw [if_neg fun z => ?_]
      · exact x.stp.old a e
      · rcases z with z | z
        · rw [z, hg0] at e
          exact e rfl
        · exact e (hl0 a z)
    · obtain ⟨v, g1, g2⟩ := x.sl i s e
      refine ⟨v, g1, ?_⟩
      cases s with
      | d _ => exact dp_mono ss g2
      | tl _ => exact tl_mono ss g2
      | clo _ => exact clo_mono ss g2
      | own l xs =>
        have := own_mem e
        rw [ho] at this
        cases this
      | bag c =>
        obtain ⟨e1, e2, e3⟩ := g2
        refine ⟨e1, ?_, e3⟩
        unfold vwG
        rw [if_neg (hbag c (x.bm i c e))]
        exact e2
  have := y.put (i := i) (v := .ref g) (s := .d (.list (rows.map listN))) rfl (fun _ z => nomatch z) hG.dp
  have e : σ.set i (some (.ref g)) = σ := by
    have hil := (List.getElem?_eq_some_iff.mp hi)
    obtain ⟨h1, h2⟩ := hil
    rw [← h2]
    exact List.set_getElem_self h1
  rw [e] at this
  exact this
def tupOfD : PyData → PyData
  | .list ds => .tuple ds
  | d => d
theorem gx_i {n : Nat} {f : Nat → PyData} {r : Rho} {ta tb : TE} {x : PyData} {L : List PyData} {k : Nat} (h1 : EvX K C m ta r (fun z => z = .d (.list L))) (h2 : EvX K C m tb r (fun z => z = .d (natD k))) (h : L[k]? = some x) : EvX K C m (tOp (rIx K) ta tb) r (fun z => z = .d x) :=
  er_op h1 h2 (rx_ixL (by rw [atI_nat (List.getElem?_eq_some_iff.mp h).1]; exact h))
theorem gx_t {r : Rho} {ta tb : TE} {x : Nat} {L : List Nat} {k : Nat} (h1 : EvX K C m ta r (fun z => z = .d (lotD L))) (h2 : EvX K C m tb r (fun z => z = .d (natD k))) (h : L[k]? = some x) : EvX K C m (tOp (rIx K) ta tb) r (fun z => z = .d (natD x)) :=
  er_op h1 h2 (rx_ixT (at_natDs h))
theorem getD_some {L : List Nat} {k : Nat} (h : k < L.length) : L[k]? = some (L.getD k 0) := by
  rw [List.getD_eq_getElem?_getD, List.getElem?_eq_getElem h] <;> rfl
theorem cl_LTable (T : Bl K w mg C aW aP) (cD : Cl P w K mg base 1 "_law_draw" (PLDraw K C)) (cP : Cl P w K mg base 2 "_law_pick" (PLPick K C)) (cV : Cl P w K mg base 1 "_law_divisor" (PLDivisor K C)) (cT : Cl P w K mg base 2 "_law_turned" (PLTurned K C)) (cO : Cl P w K mg base 2 "_law_turn_over" (PLTurnOver K C)) (d : Df K mg "_law_table" sLTable ["_law_bag_here", "_law_size"]) : Cl P w K mg base 3 "_law_table" (PLTable K C) :=
  pb_cl d scLTable (fun _ => rfl) (fun _ => rfl) fun f cdv A outer s H E a hr hp => ⟨_, dvLTable T cD (by omega) cP (by omega) cV (by omega) cT (by omega) cO (by omega) hr, by
    obtain ⟨b, size⟩ := a
    obtain ⟨s2, s5⟩ := hp
    have s2 : 2 ≤ size := s2
    have s5 : size ≤ 5 := s5
    have lst : EvX K C (some b) (tLc (iRng2 (tCons (tC (.int 1)) (tCons (tOp (rI0 fun i j => .int (i + j)) (tVar 1) (tC (.int 1))) tNil))) (gName 7) (tTest (tOp (rEqD K) (tCall (PLDivisor K C) [] L2.E0 (tCons (tVar 7) (tCons (tVar 1) tNil))) (tC (.int 1)))) (tVar 7) [7]) (rho0 NLTable [.bag b, .d (natD size)]) (fun z => z = .d (.list (givenD (rangeD 1 size) (fun i => decide (divN 200 (1 + i) size = 1)) (fun i => natD (1 + i)) size))) := by
      have ir : ItX K C (some b) (iRng2 (tCons (tC (.int 1)) (tCons (tOp (rI0 fun i j => .int (i + j)) (tVar 1) (tC (.int 1))) tNil))) (rho0 NLTable [.bag b, .d (natD size)]) (rangeD 1 size) := by
        have := it_range2 (K := K) (C := C) (m := some b) (r := rho0 NLTable [.bag b, .d (natD size)]) (tA := tCons (tC (.int 1)) (tCons (tOp (rI0 fun i j => .int (i + j)) (tVar 1) (tC (.int 1))) tNil)) (lo := 1) (n := (size : Int) + 1) (ea_cons (er_int 1) (ea_cons (er_op (er_var rfl rfl) (er_int 1) rx_add) ea_nil)) ⟨by omega, by omega, by omega, by omega⟩
        have e : ((size : Int) + 1 - 1).toNat = size := by omega
        rw [e] at this
        exact this
      have ln : (rangeD 1 size).length = size := by unfold rangeD; rw [List.length_map, List.length_range]
      have h := er_ownD (eo_lcF (g := gName 7) (t := tTest (tOp (rEqD K) (tCall (PLDivisor K C) [] L2.E0 (tCons (tVar 7) (tCons (tVar 1) tNil))) (tC (.int 1)))) (te := tVar 7) (vs := [7]) (fun i => decide (divN 200 (1 + i) size = 1)) (fun i => natD (1 + i)) ir (by omega) fun i d hd => by
        have hi : i < size := by
          have := (List.getElem?_eq_some_iff.mp hd).1
          omega
        have ed : d = natD (1 + i) := by
          unfold rangeD at hd
          rw [List.getElem?_map, List.getElem?_range hi] at hd
          cases hd
          show PyData.int (1 + (i : Int)) = PyData.int ((1 + i : Nat) : Int)
          rw [Int.natCast_add] <;> rfl
        subst ed
        refine ⟨_, _, gt_nameD, fun _ h => h, et_eqN (a := divN 200 (1 + i) size) (b := 1) (er_call1 (1 + i, size) (ea_cons (er_var rfl rfl) (ea_cons (er_var rfl rfl) ea_nil)) ⟨show 1 + i ≤ 100 by omega, show size ≤ 100 by omega⟩ fun s e => e) (er_int 1), fun _ => er_var rfl rfl⟩)
      rw [ln] at h
      exact h
    have hne : givenD (rangeD 1 size) (fun i => decide (divN 200 (1 + i) size = 1)) (fun i => natD (1 + i)) size ≠ [] := fun z => by
      have := anyF_false (given_nil'.mp z) 0 (by omega)
      rw [decide_eq_true (show divN 200 (1 + 0) size = 1 from div1 s2 s5)] at this
      cases this
    refine ds_setX (P := fun z => ∃ tm : Nat, z = .d (natD tm) ∧ 1 ≤ tm ∧ tm ≤ size ∧ divN 200 tm size = 1) ((er_pick1 rfl lst hne (by
      unfold givenD
      rw [List.length_map]
      have := List.length_filter_le (fun i => decide (divN 200 (1 + i) size = 1)) (List.range size)
      rw [List.length_range] at this
      omega)).imp fun s ⟨x, e, hx⟩ => by
        unfold givenD at hx
        obtain ⟨i, hi, rfl⟩ := List.mem_map.mp hx
        obtain ⟨h1, h2⟩ := List.mem_filter.mp hi
        have h1 := List.mem_range.mp h1
        exact ⟨1 + i, e, by omega, by omega, of_decide_eq_true h2⟩) (fun s ⟨x, e, _⟩ => by rw [e]; exact ⟨rfl, fun _ z => nomatch z⟩) fun s ⟨tm, e, t1, t2, t3⟩ => ?_
    subst e
    refine ds_setX (P := fun z => ∃ ps : List (List Nat), z = .tl (ps.map lotD) ∧ ps.length = 3 ∧ ∀ p ∈ ps, rowOk size p) ((er_own (eo_lc (ds := rangeD 0 3) (vs := [5]) (fun i acc => i ≤ 3 ∧ ∃ ps : List (List Nat), acc = ps.map lotD ∧ ps.length = i ∧ ∀ p ∈ ps, rowOk size p) (it_rangeN (n := 3) (er_int 3) (by decide)) ⟨by decide, [], rfl, rfl, fun _ h => by cases h⟩ (fun i acc ⟨hi, ps, e, hl, _⟩ => by rw [e, List.length_map]; omega) fun i d acc hd ⟨_, ps, e, hl, ho⟩ => by
      obtain ⟨rfl, hi⟩ := range_at hd
      refine ⟨_, _, gt_nameD, fun _ h => h, fun S0 H0 σ S H st Q q => q true S H ⟨fun _ => ?_, fun z => nomatch z⟩ (Stp.refl st.sh)⟩
      have c := er_call1 (K := K) (C := C) (m := some b) (r := (wipeR ((rho0 NLTable [.bag b, .d (natD size)]).set 2 (some (.d (natD tm)))) [5]).set 5 (some (.d (natD i)))) (P := fun s => ∃ p : List Nat, s = .d (lotD p) ∧ p.Perm (List.range size)) (tA := tCons (tVar 0) (tCons (tVar 1) tNil)) (E := L2.E0) (mm := fun a : Addr × Nat => some a.1) (pre := fun a => a.2 ≤ 100) (args := fun a => [.bag a.1, .d (natD a.2)]) (res := fun a s => ∃ p : List Nat, s = .d (lotD p) ∧ p.Perm (List.range a.2)) (b, size) (ea_cons (er_var rfl rfl) (ea_cons (er_var rfl rfl) ea_nil)) (show size ≤ 100 by omega) (fun s e => e) (.inr rfl)
      refine c.imp fun z ⟨p, ez, hpm⟩ => ⟨lotD p, ez, hi, ps ++ [p], by rw [e, List.map_append]; rfl, by rw [List.length_append, hl]; rfl, fun x hx => ?_⟩
      rcases List.mem_append.mp hx with c | c
      · exact ho x c
      · rw [List.mem_singleton.mp c]
        exact hpm)).imp fun s ⟨xs, e, _, ps, e2, h3, h4⟩ => ⟨ps, by rw [e, e2], h3, h4⟩) (fun s ⟨x, e, _⟩ => by rw [e]; exact ⟨rfl, fun _ z => nomatch z⟩) fun s ⟨ps, e, p3, pok⟩ => ?_
    subst e
    match ps, p3 with
    | [p0, p1, p2], _ =>
      have k0 := pok p0 (by simp)
      have k1 := pok p1 (by simp)
      have k2 := pok p2 (by simp)
      have l0 := row_len k0
      have l1 := row_len k1
      have l2 := row_len k2
      intro S0 H0 σ S H D st q1 q2 q3 q4
      dsimp only [tSeq, tAsg]
      refine lc_grid (rowF size tm p0 p1 p2) (ds := rangeD 0 size) (it_rangeN (er_var rfl rfl) (by omega)) (by rw [range_len]; omega) (fun i d hd => ?_) st _ fun gg ls S1 H1 st1 hg0 hgS hls hG => ?_
      · obtain ⟨rfl, hi⟩ := range_at hd
        refine ⟨_, _, gt_nameD, fun _ h => h, ?_⟩
        have e := eo_lcF (K := K) (C := C) (m := some b) (r := (wipeR [some (.bag b), some (.d (natD size)), some (.d (natD tm)), some (.tl ([p0, p1, p2].map lotD)), none, none, none, none, none, none] [6]).set 6 (some (.d (natD i)))) (wi := iRng1 (tCons (tVar 1) tNil)) (g := gName 8) (t := tYes) (te := tOp (rIx K) (tOp (rIx K) (tVar 3) (tC (.int 2))) (tOp (rI (fun _ j => 0 < j) fun i j => .int (i % j)) (tCB rInt1 (tCons (tOp (rI0 fun i j => .int (i + j)) (tOp (rIx K) (tOp (rIx K) (tVar 3) (tC (.int 0))) (tVar 6)) (tOp (rI CMul fun i j => .int (i * j)) (tVar 2) (tOp (rIx K) (tOp (rIx K) (tVar 3) (tC (.int 1))) (tVar 8)))) tNil)) (tVar 1))) (ds := rangeD 0 size) (vs := [8]) (fun _ => true) (fun y => natD (p2.getD ((p0.getD i 0 + tm * p1.getD y 0) % size) 0)) (it_rangeN (er_var rfl rfl) (by omega)) (by rw [range_len]; omega) fun y d hd2 => by
          obtain ⟨rfl, hy⟩ := range_at hd2
          refine ⟨_, _, gt_nameD, fun _ h => h, fun S0 H0 σ S H st Q q => q true S H rfl (Stp.refl st.sh), fun _ => ?_⟩
          have hm : (p0.getD i 0 + tm * p1.getD y 0) % size < size := Nat.mod_lt _ (by omega)
          refine gx_t (L := p2) (k := (p0.getD i 0 + tm * p1.getD y 0) % size) (gx_i (n := 0) (f := fun _ => .none) (L := [p0, p1, p2].map lotD) (k := 2) (er_varL rfl) (er_int 2) rfl) ?_ (getD_some (by omega))
          refine (er_op (er_cb (ea_cons (er_op (gx_t (L := p0) (k := i) (gx_i (n := 0) (f := fun _ => .none) (L := [p0, p1, p2].map lotD) (k := 0) (er_varL rfl) (er_int 0) rfl) (er_var rfl rfl) (getD_some (by omega))) (er_op (er_var (s := .d (natD tm)) rfl rfl) (gx_t (L := p1) (k := y) (gx_i (n := 0) (f := fun _ => .none) (L := [p0, p1, p2].map lotD) (k := 1) (er_varL rfl) (er_int 1) rfl) (er_var rfl rfl) (getD_some (by omega))) (rx_I (x := .int ((tm : Int) * (p1.getD y 0 : Int))) (.inl ⟨by omega, by omega⟩) fun S => .int _)) rx_add) ea_nil) rxa_int) (er_var (s := .d (natD size)) rfl rfl) (rx_I (x := .int (((p0.getD i 0 : Int) + (tm : Int) * (p1.getD y 0 : Int)) % (size : Int))) (show (0 : Int) < (size : Int) by omega) fun S => .int _)).is ?_
          show Sh.d (.int _) = Sh.d (.int (((p0.getD i 0 + tm * p1.getD y 0) % size : Nat) : Int))
          rw [Int.natCast_emod, Int.natCast_add, Int.natCast_mul]
        refine e.imp fun z ez => ?_
        rw [ez, range_len]
        unfold givenD rowF
        rw [List.filter_eq_self.mpr (fun _ _ => rfl), List.map_map] <;> rfl
      · rw [range_len] at hG
        have hok : ∀ r ∈ (List.range size).map (rowF size tm p0 p1 p2), rowOk size r := fun r hr => by
          obtain ⟨x, hx, rfl⟩ := List.mem_map.mp hr
          exact rowF_ok s2 s5 t1 t2 t3 k0 k1 k2 (List.mem_range.mp hx)
        have hrl : ((List.range size).map (rowF size tm p0 p1 p2)).length = size := by rw [List.length_map, List.length_range]
        have st1' := (st.step st1).drop (i := 4) (some (.ref gg))
        have z0 : ∀ a, H a = none → H0 a = none := fun a e => by
          cases hz : H0 a with
          | none => rfl
          | some o => exact absurd e (st.stp.dom a (by rw [hz]; exact fun z => nomatch z))
        have hb0 : H0 b ≠ none := st.mb b rfl
        have nbg : b ≠ gg := fun z => hb0 (by rw [z]; exact z0 gg hg0)
        have nbl : b ∉ ls := fun z => hb0 (z0 b (hls b z).1)
        obtain ⟨u0, g0, rfl, hSb, hBg⟩ := st1'.sl 0 (.bag b) rfl
        have h4 : (σ.set 4 (some (.ref gg)))[4]? = some (some (.ref gg)) := List.getElem?_set_self (by rw [st.len]; exact (show 4 < 10 by decide))
        dsimp only [gName]
        -- how often
        have draw := er_draw (K := K) (C := C) (b := b) (r := [some (.bag b), some (.d (natD size)), some (.d (natD tm)), some (.tl ([p0, p1, p2].map lotD)), none, none, none, none, none, none]) (te := tOp (rI CMul fun i j => .int (i * j)) (tC (.int 2)) (tVar 1)) (i := 0) (lim := 2 * size) rfl ((er_op (er_int 2) (er_var (s := .d (natD size)) rfl rfl) (rx_I (x := .int (2 * (size : Int))) (.inl ⟨by omega, by omega⟩) fun S => .int _)).is (by
          show Sh.d (.int (2 * (size : Int))) = Sh.d (.int ((2 * size : Nat) : Int))
          rw [Int.natCast_mul] <;> rfl)) (by omega) (by omega)
        show tCall _ _ _ _ (σ.set 4 (some (.ref gg))) H1 _
        refine draw S0 H0 _ S1 H1 st1' _ fun v s S2 H2 ⟨kk, ek, hk⟩ st2 hv => ?_
        subst ek
        have hv' : Dp K S2 v (natD kk) := hv
        cases hv'
        have ikk : ((kk : Int)).toNat = kk := Int.toNat_natCast kk
        refine ⟨kk, rfl, by omega, by omega, ?_⟩
        rw [ikk]
        have st2' := st1'.step st2
        have glive : ∀ l, (l = gg ∨ l ∈ ls) → H1 l ≠ none := fun l hl => by
          rcases hl with y | y
          · rw [y, hG.hg]; exact fun z => nomatch z
          · obtain ⟨i, hi⟩ := List.mem_iff_getElem?.mp y
            have hi' : i < ((List.range size).map (rowF size tm p0 p1 p2)).length := by rw [← hG.len]; exact (List.getElem?_eq_some_iff.mp hi).1
            rw [hG.hl i l _ hi (List.getElem?_eq_getElem hi')]
            exact fun z => nomatch z
        have hG2 : Grid H2 gg ls ((List.range size).map (rowF size tm p0 p1 p2)) := hG.step fun a o ha e => st2.hh a o (fun z => by
          have z := Option.some.inj z
          rcases ha with y | y
          · exact nbg (by rw [z, y])
          · exact nbl (by rw [z]; exact y)) e
        have hgS2 : S2 gg = none := (st2.old gg (glive gg (.inl rfl))).trans hgS
        have hlS2 : ∀ l ∈ ls, S2 l = none := fun l hl => (st2.old l (glive l (.inr hl))).trans (hls l hl).2
        refine ⟨fun i mm σ3 H3 => mm = kk - i ∧ i ≤ kk ∧ ∃ (S3 : Hp) (rows : List (List Nat)) (x5 : Option Sh), StAt K C (some b) S0 H0 [some (.bag b), some (.d (natD size)), some (.d (natD tm)), some (.tl ([p0, p1, p2].map lotD)), none, x5, none, none, none, none] σ3 S3 H3 ∧ (x5 = none ∨ ∃ n, x5 = some (.d n)) ∧ σ3[4]? = some (some (.ref gg)) ∧ Grid H3 gg ls rows ∧ rows.length = size ∧ (∀ r ∈ rows, rowOk size r) ∧ S3 gg = none ∧ (∀ l ∈ ls, S3 l = none),
          ⟨kk, rfl, Nat.zero_le _, S2, _, none, st2', .inl rfl, h4, hG2, hrl, hok, hgS2, hlS2⟩, ?_⟩
        rintro i mm σ3 H3 ⟨rfl, hi, S3, rows, x5, y3, hx5, s4, hG3, hrl3, hok3, hgS3, hlS3⟩
        have own0 : ∀ {x : Option Sh}, (x = none ∨ ∃ n, x = some (.d n)) → owns [some (.bag b), some (.d (natD size)), some (.d (natD tm)), some (.tl ([p0, p1, p2].map lotD)), none, x, none, none, none, none] = [] := fun h => by
          rcases h with h | ⟨n, h⟩ <;> rw [h] <;> rfl
        by_cases hlt : i < kk
        · refine .inr ⟨hlt, fun σ3 H3 => ∃ (S3 : Hp) (rows : List (List Nat)) (x5 : Option Sh), StAt K C (some b) S0 H0 [some (.bag b), some (.d (natD size)), some (.d (natD tm)), some (.tl ([p0, p1, p2].map lotD)), none, x5, none, none, none, none] σ3 S3 H3 ∧ (x5 = none ∨ ∃ n, x5 = some (.d n)) ∧ σ3[4]? = some (some (.ref gg)) ∧ Grid H3 gg ls rows ∧ rows.length = size ∧ (∀ r ∈ rows, rowOk size r) ∧ S3 gg = none ∧ (∀ l ∈ ls, S3 l = none), fun σ3 H3 z => ⟨kk - (i + 1), by omega, rfl, hlt, z⟩, fun x H4 hy => ?_⟩
          obtain ⟨rfl, rfl⟩ := hy
          dsimp only [gName]
          have y4 := y3.put (i := 5) (v := .int (0 + (i : Int))) (s := .d (.int (0 + (i : Int)))) rfl (fun _ z => nomatch z) (Dp.int _)
          have s4' : (σ3.set 5 (some (.int (0 + (i : Int)))))[4]? = some (some (.ref gg)) := by rw [List.getElem?_set_ne (by decide)]; exact s4
          obtain ⟨u, v0, rfl, hSb3, hB3⟩ := y4.sl 0 (.bag b) rfl
          obtain ⟨u1, v1, v2⟩ := y4.sl 1 (.d (natD size)) rfl
          have v2' : Dp K S3 u1 (natD size) := v2
          cases v2'
          refine ⟨.ref b, v0, .ref gg, s4', nV size, v1, S3, b, gg, size, ls, rows, rfl, rfl, rfl, y4.sh, hB3, hSb3, hgS3, hlS3, hG3, hrl3, hok3, s2, s5, nbl, nbg, fun S5 H5 rows5 sd5 hB5 hG5 hrl5 hok5 => ?_⟩
          have y5 := y4.stepD (ls := ls) (own0 (.inr ⟨_, rfl⟩)) sd5 hB5 fun l hl => z0 l (hls l hl).1
          have live3 : ∀ a, (a = gg ∨ a ∈ ls) → H4 a ≠ none := fun a ha => by
            rcases ha with y | y
            · rw [y, hG3.hg]; exact fun z => nomatch z
            · obtain ⟨j, hj⟩ := List.mem_iff_getElem?.mp y
              have hj' : j < rows.length := by rw [← hG3.len]; exact (List.getElem?_eq_some_iff.mp hj).1
              rw [hG3.hl j a _ hj (List.getElem?_eq_getElem hj')]
              exact fun z => nomatch z
          exact ⟨S5, rows5, _, y5, .inr ⟨_, rfl⟩, s4', hG5, hrl5, hok5, (sd5.old gg (live3 gg (.inl rfl))).trans hgS3, fun l hl => (sd5.old l (live3 l (.inr hl))).trans (hlS3 l hl)⟩
        · refine .inl ⟨by show kk ≤ i; omega, ?_⟩
          have y6 := y3.frzG (own0 hx5) hG3 hgS3 hlS3 (z0 gg hg0) (fun l hl => z0 l (hls l hl).1) s4 (fun c hc z => by
            cases hc
            rcases z with z | z
            · exact nbg z
            · exact nbl z)
          have fin : DS K C (some b) (tRet (tCB (rTupOf K) (tCons (tLc (iList K (tVar 4)) (gName 9) tYes (tCB (rTupOf K) (tCons (tVar 9) tNil)) [9]) tNil))) [some (.bag b), some (.d (natD size)), some (.d (natD tm)), some (.tl ([p0, p1, p2].map lotD)), some (.d (.list (rows.map listN))), x5, none, none, none, none] { rt := fun s => ∃ rows : List (List Nat), s = .d (.tuple (rows.map lotD)) ∧ rows.length = size ∧ ∀ r ∈ rows, r.length = size } := by
            refine ds_ret (er_cb (ea_cons (er_ownD (eo_lcM tupOfD (it_list (er_var rfl rfl)) (by rw [List.length_map]; omega) fun j d hd => ?_)) ea_nil) rxa_tupL) fun s e => ⟨rows, ?_, hrl3, fun r hr => row_len (hok3 r hr)⟩
            · rw [List.getElem?_map] at hd
              cases hg : rows[j]? with
              | none =>
                rw [hg] at hd
                cases hd
              | some rr =>
                rw [hg] at hd
                cases hd
                exact ⟨_, _, gt_nameD, fun _ h => h, (er_cb (ea_cons (er_var (s := .d (.list (rr.map natD))) rfl rfl) ea_nil) rxa_tupL).is rfl⟩
            · rw [e, List.map_map] <;> rfl
          exact fin S0 H0 σ3 _ H3 D y6 (fun _ _ _ _ z => z.elim) q2 (fun _ _ _ _ z => z.elim) fun _ _ _ _ z => z.elim⟩
end
end RD

end
section
set_option linter.all false
set_option maxRecDepth 100000
set_option maxHeartbeats 4000000
/-! B5: facts. -/
namespace RD
open PySem PySem.Spec PyProof.Rows L2
theorem nodup_len {α : Type} [DecidableEq α] : ∀ (l D : List α), l.Nodup → (∀ x ∈ l, x ∈ D) → l.length ≤ D.length
  | [], _, _, _ => Nat.zero_le _
  | x :: l, D, hn, hs => by
    obtain ⟨h1, h2⟩ := List.nodup_cons.mp hn
    have hx : x ∈ D := hs x List.mem_cons_self
    have ih := nodup_len l (D.erase x) h2 fun y hy => by
      have hne : y ≠ x := fun e => h1 (e ▸ hy)
      exact (List.mem_erase_of_ne hne).2 (hs y (List.mem_cons_of_mem _ hy))
    have e := List.length_erase_of_mem hx
    have hp : 0 < D.length := List.length_pos_of_mem hx
    rw [List.length_cons]
    omega
def duoI (p : Nat × Nat) : List Int := [(p.1 : Int), (p.2 : Int)]
theorem duoI_inj {a b : Nat × Nat} (h : duoI a = duoI b) : a = b := by
  obtain ⟨x, y⟩ := a
  obtain ⟨x', y'⟩ := b
  unfold duoI at h
  simp at h
  have : x = x' := by omega
  have : y = y' := by omega
  subst_vars
  rfl
theorem duos_tup (L : List (Nat × Nat)) : L.map duoD = (L.map duoI).map tupD := by rw [List.map_map] <;> rfl
theorem duo_back {ks : List (List Int)} {L : List (Nat × Nat)} (h : ∀ k ∈ ks, k ∈ L.map duoI) : ∃ L' : List (Nat × Nat), ks = L'.map duoI := by
  induction ks with
  | nil => exact ⟨[], rfl⟩
  | cons k ks ih =>
    obtain ⟨L', e⟩ := ih fun k hk => h k (List.mem_cons_of_mem _ hk)
    obtain ⟨r, _, er⟩ := List.mem_map.mp (h k List.mem_cons_self)
    exact ⟨r :: L', by rw [List.map_cons, er, e]⟩
theorem mem_duo {L : List (Nat × Nat)} {r : Nat × Nat} : duoI r ∈ L.map duoI ↔ r ∈ L := by
  constructor
  · intro h
    obtain ⟨r', h1, h2⟩ := List.mem_map.mp h
    rw [← duoI_inj h2]
    exact h1
  · intro h
    exact List.mem_map.mpr ⟨r, h, rfl⟩
theorem cut10 (xs : List PyData) : cutD xs none (some 10) = xs.take 10 := by
  unfold cutD
  have e1 : HT.sIx xs.length 0 none = 0 := rfl
  have e2 : HT.sIx xs.length xs.length (some 10) = min 10 xs.length := by
    unfold HT.sIx
    simp
  rw [e1, e2, List.drop_zero, Nat.sub_zero]
  by_cases h : 10 ≤ xs.length
  · rw [Nat.min_eq_left h]
  · rw [Nat.min_eq_right (by omega), List.take_length, List.take_of_length_le (by omega)]
section
variable {P : Program} {w : World} {K : PySem.W.Frag} {mg : Str → Option Value} {base : Heap} {C aW aP : Addr} {m : Option Addr} {r : Rho} {ta tb te : TE} {tu : TS} {O : Out} {wi : TI} {g : TG} {t : TT} {tz : TS} {b : Addr}
theorem eo_sortDuos {L : List (Nat × Nat)} (h : EvX K C m te r (fun z => z = .d (.list (L.map duoD)))) (hl : ∀ p ∈ L, p.1 < 64 ∧ p.2 < 64) (hf : L.length < 64) :
    EvO K C m (tCB (rSortedT K P w) (tCons (tCB (rSetOfT K P w) (tCons te tNil)) tNil)) r (fun z => ∃ L' : List (Nat × Nat), z = L'.map duoD ∧ (∀ r, r ∈ L' ↔ r ∈ L) ∧ L'.length ≤ L.length) := by
  rw [duos_tup] at h
  refine (eo_sortSet 2 h (by rw [List.length_map]; exact hf) (by decide) fun k hk => ?_).imp fun z ⟨ks', e, h1, h2, h3, _⟩ => ?_
  · obtain ⟨r, hr, rfl⟩ := List.mem_map.mp hk
    obtain ⟨a, b⟩ := hl r hr
    refine ⟨rfl, fun i hi => ?_⟩
    unfold duoI at hi
    simp at hi
    rcases hi with rfl | rfl <;> omega
  · obtain ⟨L', rfl⟩ := duo_back fun k hk => (h1 k).mp hk
    have hm : ∀ r, r ∈ L' ↔ r ∈ L := fun r => by rw [← mem_duo, h1, mem_duo]
    have hnd : L'.Nodup := by
      refine List.Pairwise.imp ?_ (List.pairwise_map.mp h2)
      intro a b hab e
      exact hab (by rw [e])
    exact ⟨L', by rw [e, duos_tup], hm, nodup_len L' L hnd fun x hx => (hm x).mp hx⟩
theorem er_slTX {tl th : L2.TO} {A : List PyData → Prop} {lo hi : Option Int} (h : EvX K C m te r (fun z => ∃ ds, z = .d (.tuple ds) ∧ A ds)) (h1 : EvP K C m tl r lo) (h2 : EvP K C m th r hi) : EvX K C m (tSl (rSlA K) te tl th) r (fun z => ∃ ds, z = .d (.tuple (cutD ds lo hi)) ∧ A ds) := fun S0 H0 σ S H x Q q =>
  h S0 H0 σ S H x _ fun v w S1 H1 e st1 hv => by
    obtain ⟨ds, rfl, hA⟩ := e
    refine h1 S0 H0 σ S1 H1 (x.step st1) _ fun S2 H2 st2 => h2 S0 H0 σ S2 H2 ((x.step st1).step st2) _ fun S3 H3 st3 => ?_
    have hv' : Dp K S1 v (.tuple ds) := hv
    have hv3 := dp_mono st3.ss (dp_mono st2.ss hv')
    have st := st1.trans (st2.trans st3)
    cases hv3 with
    | @tup a vs _ hq ha =>
      refine ⟨a, vs, rfl, same_t st3.sh hq, fun hw => ?_, fun hw p hp => ?_⟩
      · refine q (.ref a) _ S3 H3 ⟨ds, rfl, hA⟩ st ?_
        have e : cutD ds lo hi = ds := by
          unfold cutD
          rw [← dpa_len ha, hw.1, hw.2, List.drop_zero, Nat.sub_zero, dpa_len ha, List.take_length]
        show Dp K S3 (.ref a) (.tuple (cutD ds lo hi))
        rw [e]
        exact .tup hq ha
      · have sn : Stp m S3 H3 (upd S3 p (.tup (cutV vs lo hi))) (upd H3 p (.tup (cutV vs lo hi))) := Stp.new st.sh hp
        exact q (.ref p) _ _ _ ⟨ds, rfl, hA⟩ (st.trans sn) (.tup (.inl (.inl upd_same)) (dpa_mono sn.ss (cut_dpa lo hi ha)))
theorem ite_range {A : Nat → Prop} (h : EvX K C m te r (fun z => ∃ n, z = .d (natD n) ∧ A n)) (hA : ∀ n, A n → n ≤ 1000000) : ItE K C m (iRng1 (tCons te tNil)) r (fun ds => ∃ n, ds = rangeD 0 n ∧ A n) := fun S0 H0 σ S H st R q => by
  show te σ H _
  refine h S0 H0 σ S H st _ fun v s S1 H1 ⟨n, e, hn⟩ st1 hv => ?_
  subst e
  have hv' : Dp K S1 v (natD n) := hv
  cases hv'
  have := hA n hn
  have e : ((n : Int)).toNat = n := Int.toNat_natCast n
  refine ⟨n, rfl, by omega, by omega, ?_⟩
  rw [e]
  exact q _ S1 H1 _ ⟨n, rfl, hn⟩ st1 walks_range
theorem ds_asgX {P : Sh → Prop} (h : EvX K C m te r P) (k : ∀ s, P s → ∃ y r' js, s = .d y ∧ GT K C m g (.d y) r r' js ∧ DS K C m tz r' O) : DS K C m (tSeq (tAsg te g) tz) r O := fun S0 H0 σ S H D st k1 k2 k3 k4 =>
  h S0 H0 σ S H st _ fun v s S1 H1 e st1 hv => by
    obtain ⟨y, r', js, rfl, hg, hk⟩ := k s e
    exact hg S0 H0 σ S1 H1 v (st.step st1) hv _ fun σ' st' _ => hk S0 H0 σ' S1 H1 D st' k1 k2 k3 k4
theorem ds_tup3O {i j l : Nat} {t1 t2 t3 : TE} {P1 P2 : PyData → Prop} (h1 : EvX K C m t1 r (fun z => ∃ x, z = .d x ∧ P1 x)) (h2 : EvX K C m t2 r (fun z => ∃ x, z = .d x ∧ P2 x)) (h3 : EvO K C m t3 r (fun z => z = []))
    (k : ∀ x y a, P1 x → P2 y → DS K C m tz (((r.set i (some (.d x))).set j (some (.d y))).set l (some (.own a []))) O) : DS K C m (tSeq (tAsg (tTup (tCons t1 (tCons t2 (tCons t3 tNil)))) (gTup K 3 (gCons (gName i) (gCons (gName j) (gCons (gName l) gNil))))) tz) r O := fun S0 H0 σ S H D st k1 k2 k3 k4 => by
  show t1 σ H _
  refine h1 S0 H0 σ S H st _ fun v1 s1 S1 H1 ⟨x, e1, p1⟩ st1 hv1 => ?_
  subst e1
  show t2 σ H1 _
  refine h2 S0 H0 σ S1 H1 (st.step st1) _ fun v2 s2 S2 H2 ⟨y, e2, p2⟩ st2 hv2 => ?_
  subst e2
  show t3 σ H2 _
  refine h3 S0 H0 σ S2 H2 ((st.step st1).step st2) _ fun a vs xs S3 H3 ex hn st3 hS3 hH3 hd3 => ?_
  subst ex
  cases hd3
  refine ⟨(show 3 ≤ sizeLine by decide), fun p hp => ⟨p, _, rfl, .inl (.inl upd_same), rfl, _, _, rfl, _, _, rfl, _, _, rfl, rfl, ?_⟩⟩
  have y0 := ((st.step st1).put (i := i) (v := v1) (s := .d x) rfl (fun _ z => nomatch z) hv1)
  have y1 := (y0.step st2).put (i := j) (v := v2) (s := .d y) rfl (fun _ z => nomatch z) hv2
  have np : a ≠ p := fun z => by rw [z, hp] at hH3; cases hH3
  have y2 := y1.putOwn (i := l) (l := a) (vs := []) (xs := []) (st3.trans (Stp.lay (o := .tup [v1, v2, .ref a]) st3.sh hp)) hn hS3 (by rw [upd_ne np]; exact hH3) .nil
  exact k x y a p1 p2 S0 H0 _ S3 _ D y2 k1 k2 k3 k4
theorem er_orVX {a : Bool} (h1 : EvX K C m ta r (fun z => z = .d (.bool a))) (h2 : EvX K C m tb r (fun z => ∃ c, z = .d (.bool c))) : EvX K C m (tOrV ta tb) r (fun z => ∃ c, z = .d (.bool c) ∧ (a = true → c = true)) := fun S0 H0 σ S H x Q q =>
  h1 S0 H0 σ S H x _ fun v w S1 H1 e st1 hv => by
    subst e
    cases hv
    refine ⟨a, rfl, ?_⟩
    cases a with
    | false =>
      show tb σ H1 Q
      exact h2 S0 H0 σ S1 H1 (x.step st1) Q fun v2 w2 S2 H2 ⟨c, e2⟩ st2 h => q v2 w2 S2 H2 ⟨c, e2, fun z => nomatch z⟩ (st1.trans st2) h
    | true =>
      show Q (.bl true) H1
      exact q _ (.d (.bool true)) S1 H1 ⟨true, rfl, fun _ => rfl⟩ st1 (Dp.bl true)
theorem er_eqX {A : Nat → Prop} {n : Nat} (h1 : EvX K C m ta r (fun z => ∃ d, z = .d (natD d) ∧ A d)) (h2 : EvX K C m tb r (fun z => z = .d (natD n))) : EvX K C m (tOp (rEqD K) ta tb) r (fun z => ∃ c, z = .d (.bool c)) :=
  er_opX h1 h2 (fun s ⟨d, e, _⟩ => by rw [e] <;> rfl) fun s1 s2 ⟨d, e, _⟩ e2 => by
    subst e e2
    intro S H v w hs hv hw Q q
    exact rx_eqD (shaped_int _) (shaped_int _) S H v w hs hv hw Q fun v s S' H' e => q v s S' H' ⟨_, e⟩
theorem eo_catX {xs : List PyData} {A : List PyData → Prop} (ha : EvX K C m ta r (fun z => z = .tl xs)) (hb : EvX K C m tb r (fun z => ∃ ys, z = .tl ys ∧ A ys)) (hl : ∀ ys, A ys → xs.length + ys.length ≤ 100000) : EvO K C m (tOp rCat ta tb) r (fun z => ∃ ys, z = xs ++ ys ∧ A ys) := fun S0 H0 σ S H x Q q =>
  ha S0 H0 σ S H x _ fun v w S1 H1 e st1 hv => by
    subst e
    refine hb S0 H0 σ S1 H1 (x.step st1) _ fun v2 w2 S2 H2 ⟨ys, e2, hA⟩ st2 hv2 => ?_
    subst e2
    obtain ⟨l, vs, e0, e1, e2⟩ := tl_mono st2.ss hv
    obtain ⟨l', vs', g0, g1, g2⟩ := hv2
    have st := st1.trans st2
    refine ⟨l, l', vs, vs', e0, g0, st2.sh _ _ e1, st2.sh _ _ g1, sz100 (by rw [dpa_len e2, dpa_len g2]; exact hl ys hA), fun p hp => ?_⟩
    exact q p _ _ S2 _ ⟨ys, rfl, hA⟩ (none_of st hp) (st.trans (Stp.lay st.sh hp)) (none_S st.sh hp) upd_same (dpa_append e2 g2)
theorem eo_repB {A : PyData → Prop} {B : Bool → Prop} (ha : EvX K C m ta r (fun z => ∃ d, z = .tl [d] ∧ A d)) (hb : EvX K C m tb r (fun z => ∃ c : Bool, z = .d (.int (if c then 1 else 0)) ∧ B c)) : EvO K C m (tOp rRep ta tb) r (fun z => ∃ c, B c ∧ ((c = false ∧ z = []) ∨ (c = true ∧ ∃ d, z = [d] ∧ A d))) := fun S0 H0 σ S H x Q q =>
  ha S0 H0 σ S H x _ fun v w S1 H1 ⟨d, e, hA⟩ st1 hv => by
    subst e
    refine hb S0 H0 σ S1 H1 (x.step st1) _ fun v2 w2 S2 H2 ⟨c, e2, hB⟩ st2 hv2 => ?_
    subst e2
    obtain ⟨l, vs, e0, e1, e2⟩ := tl_mono st2.ss hv
    have hv2' : Dp K S2 v2 (.int (if c then 1 else 0)) := hv2
    cases hv2'
    have st := st1.trans st2
    have ln := dpa_len e2
    cases c with
    | false =>
      refine ⟨l, 0, vs, e0, rfl, st2.sh _ _ e1, by decide, by decide, (by show vs.length * 0 ≤ _; rw [Nat.mul_zero]; exact Nat.zero_le _), fun p hp => ?_⟩
      exact q p _ [] S2 _ ⟨false, hB, .inl ⟨rfl, rfl⟩⟩ (none_of st hp) (st.trans (Stp.lay st.sh hp)) (none_S st.sh hp) upd_same .nil
    | true =>
      refine ⟨l, 1, vs, e0, rfl, st2.sh _ _ e1, by decide, by decide, (by show vs.length * 1 ≤ _; rw [Nat.mul_one, ln]; exact sz100 (show 1 ≤ 100000 by decide)), fun p hp => ?_⟩
      have ev : (List.replicate (1 : Int).toNat vs).flatten = vs := by
        show vs ++ [] = vs
        rw [List.append_nil]
      rw [ev]
      exact q p _ [d] S2 _ ⟨true, hB, .inr ⟨rfl, d, rfl, hA⟩⟩ (none_of st hp) (st.trans (Stp.lay st.sh hp)) (none_S st.sh hp) upd_same e2
theorem er_intB {A : Bool → Prop} (h : EvX K C m te r (fun z => ∃ c, z = .d (.bool c) ∧ A c)) : EvX K C m (tCB rInt1 (tCons te tNil)) r (fun z => ∃ c : Bool, z = .d (.int (if c then 1 else 0)) ∧ A c) := fun S0 H0 σ S H st Q q => by
  show te σ H _
  refine h S0 H0 σ S H st _ fun v s S1 H1 ⟨c, e, hA⟩ st1 hv => ?_
  subst e
  have hv' : Dp K S1 v (.bool c) := hv
  cases hv'
  exact .inr ⟨c, rfl, q _ (.d (.int (if c then 1 else 0))) S1 H1 ⟨c, rfl, hA⟩ st1 (Dp.int _)⟩
theorem er_pickX {i : Nat} {A : List PyData → Prop} (h0 : r[i]? = some (some (.bag b))) (h : EvX K C (some b) te r (fun z => ∃ xs, z = .tl xs ∧ A xs)) (h1 : ∀ xs, A xs → xs ≠ [] ∧ xs.length ≤ 100000) : EvX K C (some b) (tCall (PLPick K C) [] L2.E0 (tCons (tVar i) (tCons te tNil))) r (fun z => ∃ x xs, z = .d x ∧ x ∈ xs ∧ A xs) := by
  have h' : EvX K C (some b) te r (fun z => ∃ xs, z = .d (.list xs) ∧ A xs) := fun S0 H0 σ S H st Q q => h S0 H0 σ S H st Q fun v s S' H' ⟨xs, e, hA⟩ st' hv => by
    subst e
    exact q v (.d (.list xs)) S' H' ⟨xs, rfl, hA⟩ st' (tl_dp hv)
  refine er_call (PA := fun ss => ∃ xs, ss = [.bag b, .d (.list xs)] ∧ A xs) (ea_consX (P1 := fun z => z = .bag b) (P2 := fun _ ss => ∃ xs, ss = [.d (.list xs)] ∧ A xs) (er_var h0 rfl) (fun s e => by rw [e] <;> rfl) (fun _ _ => ea_consX (P2 := fun _ ss => ss = []) h' (fun s ⟨xs, e, _⟩ => by rw [e] <;> rfl) (fun _ _ => ea_nil) fun s ss ⟨xs, e, hA⟩ e2 => ⟨xs, by rw [e, e2], hA⟩) fun s ss e ⟨xs, e2, hA⟩ => ⟨xs, by rw [e, e2], hA⟩) fun ss ⟨xs, e, hA⟩ => ⟨(b, xs), e, h1 xs hA, .inr rfl, fun s ⟨x, ex, hx⟩ => ⟨x, xs, ex, hx, hA⟩⟩
theorem rxa_min {x y : Nat} : RXA K C rMin2 [.d (natD x), .d (natD y)] (fun z => z = .d (natD (min x y))) := fun S H vs hs hv Q q => by
  cases hv with
  | cons h1 h2 =>
    cases h2 with
    | cons h2 h3 =>
      cases h3
      have h1' : Dp K S _ (natD x) := h1
      have h2' : Dp K S _ (natD y) := h2
      cases h1'
      cases h2'
      refine ⟨x, y, rfl, q _ (.d (.int (if (y : Int) < (x : Int) then (y : Int) else (x : Int)))) S H ?_ (Stp.refl hs) (Dp.int _)⟩
      show Sh.d (.int (if (y : Int) < (x : Int) then (y : Int) else (x : Int))) = Sh.d (.int ((min x y : Nat) : Int))
      congr 2
      split <;> omega
theorem rxa_max {x y : Nat} : RXA K C rMax2 [.d (natD x), .d (natD y)] (fun z => z = .d (natD (max x y))) := fun S H vs hs hv Q q => by
  cases hv with
  | cons h1 h2 =>
    cases h2 with
    | cons h2 h3 =>
      cases h3
      have h1' : Dp K S _ (natD x) := h1
      have h2' : Dp K S _ (natD y) := h2
      cases h1'
      cases h2'
      refine ⟨x, y, rfl, q _ (.d (.int (if (y : Int) > (x : Int) then (y : Int) else (x : Int)))) S H ?_ (Stp.refl hs) (Dp.int _)⟩
      show Sh.d (.int (if (y : Int) > (x : Int) then (y : Int) else (x : Int))) = Sh.d (.int ((max x y : Nat) : Int))
      congr 2
      split <;> omega
end
end RD

end
section
set_option linter.all false
set_option maxRecDepth 100000
set_option maxHeartbeats 4000000
/-! B6: facts, good facts. -/
namespace RD
open PySem PySem.Spec PyProof.Rows L2
section
variable {P : Program} {w : World} {K : PySem.W.Frag} {mg : Str → Option Value} {base : Heap} {C aW aP : Addr} {m : Option Addr} {r : Rho} {ta tb te : TE} {tu : TS} {O : Out} {wi : TI} {g : TG} {t : TT} {tz : TS} {b : Addr}
theorem cl_LFacts (T : Bl K w mg C aW aP) (cD : Cl P w K mg base 1 "_law_draw" (PLDraw K C)) (cP : Cl P w K mg base 2 "_law_pick" (PLPick K C)) (cT : Cl P w K mg base 3 "_law_table" (PLTable K C)) (cH : Cl P w K mg base 2 "_law_things" (PLThings K C)) (d : Df K mg "_law_facts" sLFacts ["_law_bag_here", "_law_names"]) : Cl P w K mg base 4 "_law_facts" (PLFacts K C) :=
  pb_cl d scLFacts (fun _ => rfl) (fun _ => rfl) fun f cdv A outer s H E a hr hp => ⟨_, dvLFacts T cD (by omega) cP (by omega) cT (by omega) cH (by omega) hr, by
    obtain ⟨b, n⟩ := a
    obtain ⟨n1, n8⟩ := hp
    have n1 : 1 ≤ n := n1
    have n8 : n ≤ 8 := n8
    refine ds_setX (P := fun z => ∃ size : Nat, z = .d (natD size) ∧ 2 ≤ size ∧ size ≤ 5) (er_opX (P1 := fun z => z = .d (.int 2)) (er_int 2) (er_draw (lim := 4) rfl (er_int 4) (by decide) (by decide)) (fun s e => by rw [e] <;> rfl) fun s1 s2 e1 ⟨d, e2, hd⟩ => by
      subst e1 e2
      intro S H v w hs hv hw Q q
      refine rx_add S H v w hs hv hw Q fun v s S' H' e => q v s S' H' ⟨2 + d, ?_, by omega, by omega⟩
      rw [e]
      show Sh.d (.int (2 + (d : Int))) = Sh.d (.int ((2 + d : Nat) : Int))
      rw [Int.natCast_add] <;> rfl) (fun s ⟨x, e, _⟩ => by rw [e]; exact ⟨rfl, fun _ z => nomatch z⟩) fun s ⟨size, e, s2, s5⟩ => ?_
    subst e
    have tbl0 : EvX K C (some b) (tCall (PLTable K C) [] L2.E0 (tCons (tVar 0) (tCons (tVar 2) tNil))) ((rho0 NLFacts [.bag b, .d (natD n)]).set 2 (some (.d (natD size)))) (fun s => ∃ rows : List (List Nat), s = .d (.tuple (rows.map lotD)) ∧ rows.length = size ∧ ∀ r ∈ rows, r.length = size) :=
      er_call1 (b, size) (ea_cons (er_var rfl rfl) (ea_cons (er_var rfl rfl) ea_nil)) ⟨s2, s5⟩ (fun s e => e) (.inr rfl)
    have thg0 : EvX K C (some b) (tCall (PLThings K C) [] L2.E0 (tCons (tVar 0) (tCons (tVar 1) (tCons (tVar 2) tNil)))) ((rho0 NLFacts [.bag b, .d (natD n)]).set 2 (some (.d (natD size)))) (fun s => ∃ t : List Nat, s = .d (lotD t) ∧ t.length = n ∧ ∀ x ∈ t, x < size) :=
      er_call1 (b, n, size) (ea_cons (er_var rfl rfl) (ea_cons (er_var rfl rfl) (ea_cons (er_var rfl rfl) ea_nil))) ⟨show n ≤ 100 by omega, show 1 ≤ size by omega, show size ≤ 100 by omega⟩ (fun s e => e) (.inr rfl)
    refine ds_tup3O (tbl0.imp (P' := fun z => ∃ x, z = .d x ∧ ∃ rows : List (List Nat), x = .tuple (rows.map lotD) ∧ rows.length = size ∧ ∀ r ∈ rows, r.length = size) fun s ⟨rows, e, q⟩ => ⟨_, e, rows, rfl, q⟩) (thg0.imp (P' := fun z => ∃ x, z = .d x ∧ ∃ t : List Nat, x = lotD t ∧ t.length = n ∧ ∀ x ∈ t, x < size) fun s ⟨t, e, q⟩ => ⟨_, e, t, rfl, q⟩) (eo_lst1 ea_nil (by decide)) fun x y l5 ⟨rows, ex, hr1, hr2⟩ ⟨th, ey, ht1, ht2⟩ => ?_
    subst ex ey
    have draw2 : ∀ {x5 x6 x7 x8 x9 x10 x11 : Option Sh}, EvX K C (some b) (tTup (tCons (tCall (PLDraw K C) [] L2.E0 (tCons (tVar 0) (tCons (tVar 1) tNil))) (tCons (tCall (PLDraw K C) [] L2.E0 (tCons (tVar 0) (tCons (tVar 1) tNil))) tNil))) [some (.bag b), some (.d (natD n)), some (.d (natD size)), some (.d (.tuple (rows.map lotD))), some (.d (lotD th)), x5, x6, x7, x8, x9, x10, x11] (fun z => ∃ x y, z = .d (.tuple [x, y]) ∧ (∃ d, x = natD d ∧ d < n) ∧ ∃ d, y = natD d ∧ d < n) := fun {x5 x6 x7 x8 x9 x10 x11} => by
      have dd := er_draw (K := K) (C := C) (b := b) (r := [some (.bag b), some (.d (natD n)), some (.d (natD size)), some (.d (.tuple (rows.map lotD))), some (.d (lotD th)), x5, x6, x7, x8, x9, x10, x11]) (te := tVar 1) (i := 0) (lim := n) rfl (er_var rfl rfl) n1 (by omega)
      have dd' := dd.imp (P' := fun z => ∃ x, z = .d x ∧ ∃ d, x = natD d ∧ d < n) fun s ⟨d, e, h⟩ => ⟨_, e, d, rfl, h⟩
      exact er_tup2X dd' dd'
    refine ds_forE (Pd := fun ds => ∃ k, ds = rangeD 0 k ∧ k ≤ 30) (ite_range ((er_pick1 (xs := [.int 0, .int 3, .int 8, .int 30]) rfl (er_lst (ea_cons (er_int 0) (ea_cons (er_int 3) (ea_cons (er_int 8) (ea_cons (er_int 30) ea_nil)))) (show 4 ≤ 100000 by decide)) (by simp) (show 4 ≤ 100000 by decide)).imp fun s ⟨x, e, hx⟩ => by
        simp only [List.mem_cons, List.not_mem_nil, or_false] at hx
        rcases hx with h | h | h | h
        · exact ⟨0, by rw [e, h] <;> rfl, by decide⟩
        · exact ⟨3, by rw [e, h] <;> rfl, by decide⟩
        · exact ⟨8, by rw [e, h] <;> rfl, by decide⟩
        · exact ⟨30, by rw [e, h] <;> rfl, by decide⟩) fun k hk => by omega)
      (fun _ i r => ∃ (es : List Ent) (x6 x7 x8 x9 : Option Sh), r = [some (.bag b), some (.d (natD n)), some (.d (natD size)), some (.d (.tuple (rows.map lotD))), some (.d (lotD th)), some (.own l5 (es.map rowD)), x6, x7, x8, x9, none, none] ∧ RowsOk n es ∧ es.length ≤ i) (fun ds _ => ⟨[], none, none, none, none, rfl, (fun _ h => by cases h), Nat.le_refl _⟩)
      (fun ds ⟨kk, eds, hkk⟩ i d r' hd ⟨es, x6, x7, x8, x9, er, hro, hel⟩ => ?_) fun ds ⟨kk, eds, hkk⟩ r' ⟨es, x6, x7, x8, x9, er, hro, hel⟩ => ?_
    · subst er eds
      obtain ⟨rfl, hi⟩ := range_at hd
      refine ⟨_, _, gt_nameD, ds_asgX draw2 fun s ⟨x, y, e, ⟨xx, ex, hx⟩, ⟨yy, ey, hy⟩⟩ => ?_⟩
      subst ex ey
      refine ⟨_, _, _, e, gt_duo (p := (xx, yy)), ?_⟩
      have htx : th[xx]? = some (th.getD xx 0) := getD_some (by omega)
      have hty : th[yy]? = some (th.getD yy 0) := getD_some (by omega)
      have lx : th.getD xx 0 < size := ht2 _ (List.mem_of_getElem? htx)
      have ly : th.getD yy 0 < size := ht2 _ (List.mem_of_getElem? hty)
      obtain ⟨rw', hrw⟩ : ∃ r, rows[th.getD xx 0]? = some r := ⟨_, List.getElem?_eq_getElem (by omega)⟩
      have lrw := hr2 rw' (List.mem_of_getElem? hrw)
      have hcell : rw'[th.getD yy 0]? = some (rw'.getD (th.getD yy 0) 0) := getD_some (by omega)
      refine ds_setTl (y := givenD (rangeD 0 n) (fun k => decide (th.getD k 0 = rw'.getD (th.getD yy 0) 0)) (fun k => natD k) n) (er_own1 ?_) ?_
      · have e0 := eo_lcF (K := K) (C := C) (m := some b) (r := [some (.bag b), some (.d (natD n)), some (.d (natD size)), some (.d (.tuple (rows.map lotD))), some (.d (lotD th)), some (.own l5 (es.map rowD)), some (.d (natD i)), some (.d (natD xx)), some (.d (natD yy)), x9, none, none]) (wi := iRng1 (tCons (tVar 1) tNil)) (g := gName 11) (t := tTest (tOp (rEqD K) (tOp (rIx K) (tVar 4) (tVar 11)) (tOp (rIx K) (tOp (rIx K) (tVar 3) (tOp (rIx K) (tVar 4) (tVar 7))) (tOp (rIx K) (tVar 4) (tVar 8))))) (te := tVar 11) (vs := [11]) (ds := rangeD 0 n) (fun k => decide (th.getD k 0 = rw'.getD (th.getD yy 0) 0)) (fun k => natD k) (it_rangeN (er_var rfl rfl) (by omega)) (by rw [range_len]; omega) fun k d hd2 => by
          obtain ⟨rfl, hk⟩ := range_at hd2
          refine ⟨_, _, gt_nameD, fun _ h => h, et_eqN (gx_t (L := th) (k := k) (er_var rfl rfl) (er_var rfl rfl) (getD_some (by omega))) (gx_t (L := rw') (er_op (er_var rfl rfl) (gx_t (L := th) (k := xx) (er_var rfl rfl) (er_var rfl rfl) htx) (rx_ixT (x := lotD rw') ?_)) (gx_t (L := th) (k := yy) (er_var rfl rfl) (er_var rfl rfl) hty) hcell), fun _ => er_var rfl rfl⟩
          rw [atI_nat (by rw [List.length_map]; omega), List.getElem?_map, hrw] <;> rfl
        rw [range_len] at e0
        exact e0
      · obtain ⟨gs, egs⟩ : ∃ gs, gs = givenD (rangeD 0 n) (fun k => decide (th.getD k 0 = rw'.getD (th.getD yy 0) 0)) (fun k => natD k) n := ⟨_, rfl⟩
        rw [← egs]
        have gsok : (∀ z ∈ gs, ∃ d, z = natD d ∧ d < n) ∧ gs.length ≤ n := by
          rw [egs]
          unfold givenD
          refine ⟨fun z hz => ?_, ?_⟩
          · obtain ⟨k, hk, rfl⟩ := List.mem_map.mp hz
            exact ⟨k, rfl, List.mem_range.mp (List.mem_filter.mp hk).1⟩
          · rw [List.length_map]
            have := List.length_filter_le (fun k => decide (th.getD k 0 = rw'.getD (th.getD yy 0) 0)) (List.range n)
            rw [List.length_range] at this
            exact this
        have R9 := fun (tA : TE) => EvX K C (some b) tA [some (.bag b), some (.d (natD n)), some (.d (natD size)), some (.d (.tuple (rows.map lotD))), some (.d (lotD th)), some (.own l5 (es.map rowD)), some (.d (natD i)), some (.d (natD xx)), some (.d (natD yy)), some (.tl gs), none, none]
        have one : EvX K C (some b) (tLst (tCons (tCall (PLDraw K C) [] L2.E0 (tCons (tVar 0) (tCons (tVar 1) tNil))) tNil)) [some (.bag b), some (.d (natD n)), some (.d (natD size)), some (.d (.tuple (rows.map lotD))), some (.d (lotD th)), some (.own l5 (es.map rowD)), some (.d (natD i)), some (.d (natD xx)), some (.d (natD yy)), some (.tl gs), none, none] (fun z => ∃ d, z = .tl [d] ∧ ∃ k, d = natD k ∧ k < n) := by
          have dd := er_draw (K := K) (C := C) (b := b) (r := [some (.bag b), some (.d (natD n)), some (.d (natD size)), some (.d (.tuple (rows.map lotD))), some (.d (lotD th)), some (.own l5 (es.map rowD)), some (.d (natD i)), some (.d (natD xx)), some (.d (natD yy)), some (.tl gs), none, none]) (te := tVar 1) (i := 0) (lim := n) rfl (er_var rfl rfl) n1 (by omega)
          refine (er_own (eo_lst (R := fun xs => ∃ d, xs = [d] ∧ ∃ k, d = natD k ∧ k < n) (ea_consX (P2 := fun _ ss => ss = []) dd (fun s ⟨d, e, _⟩ => by rw [e] <;> rfl) (fun _ _ => ea_nil) fun s ss ⟨d, e, hd⟩ e2 => ⟨[natD d], by rw [e, e2] <;> rfl, ⟨natD d, rfl, d, rfl, hd⟩, show 1 ≤ 100000 by decide⟩))).imp fun s ⟨xs, e, d, e2, q⟩ => ⟨d, by rw [e, e2], q⟩
        have six := er_draw (K := K) (C := C) (b := b) (r := [some (.bag b), some (.d (natD n)), some (.d (natD size)), some (.d (.tuple (rows.map lotD))), some (.d (lotD th)), some (.own l5 (es.map rowD)), some (.d (natD i)), some (.d (natD xx)), some (.d (natD yy)), some (.tl gs), none, none]) (te := tC (.int 6)) (i := 0) (lim := 6) rfl (er_int 6) (by decide) (by decide)
        have flag := er_intB (er_orVX (a := decide (gs = [])) ((er_op (er_varL (K := K) (C := C) (m := some b) (r := [some (.bag b), some (.d (natD n)), some (.d (natD size)), some (.d (.tuple (rows.map lotD))), some (.d (lotD th)), some (.own l5 (es.map rowD)), some (.d (natD i)), some (.d (natD xx)), some (.d (natD yy)), some (.tl gs), none, none]) (i := 9) rfl) er_lst0 (rx_eqD (shaped_natL fun z hz => (gsok.1 z hz).imp fun _ h => h.1) shaped_nil)).is (by rw [eqv_nil])) (er_eqX (n := 0) six (er_int 0)))
        have cat := eo_catX (A := fun ys => ∃ c, (decide (gs = []) = true → c = true) ∧ ((c = false ∧ ys = []) ∨ (c = true ∧ ∃ d, ys = [d] ∧ ∃ k, d = natD k ∧ k < n))) (er_var (K := K) (C := C) (m := some b) (r := [some (.bag b), some (.d (natD n)), some (.d (natD size)), some (.d (.tuple (rows.map lotD))), some (.d (lotD th)), some (.own l5 (es.map rowD)), some (.d (natD i)), some (.d (natD xx)), some (.d (natD yy)), some (.tl gs), none, none]) (i := 9) (s := .tl gs) rfl rfl) (er_own (eo_repB one flag)) (fun ys ⟨c, _, h⟩ => by
          have := gsok.2
          rcases h with ⟨_, h⟩ | ⟨_, d, h, _⟩
          · rw [h]; show gs.length + 0 ≤ _; omega
          · rw [h]; show gs.length + 1 ≤ _; omega)
        have pk := er_pickX (i := 0) (A := fun zs => zs ≠ [] ∧ zs.length ≤ 100000 ∧ ∀ z ∈ zs, ∃ d, z = natD d ∧ d < n) rfl ((er_own cat).imp fun s ⟨zs, e, ys, e2, c, hc, h⟩ => ⟨zs, e, by
          rw [e2]
          have := gsok.2
          rcases h with ⟨hcf, h⟩ | ⟨hct, d, h, k, hk1, hk2⟩
          · rw [h, List.append_nil]
            exact ⟨(fun z => by rw [hc (decide_eq_true z)] at hcf; cases hcf), by omega, gsok.1⟩
          · rw [h]
            refine ⟨by simp, by rw [List.length_append]; show gs.length + 1 ≤ _; omega, fun z hz => ?_⟩
            rcases List.mem_append.mp hz with q | q
            · exact gsok.1 z q
            · rw [List.mem_singleton.mp q]
              exact ⟨k, hk1, hk2⟩⟩) (fun zs h => ⟨h.1, h.2.1⟩)
        have pk' := pk.imp (P' := fun z => ∃ x, z = .d x ∧ ∃ d, x = natD d ∧ d < n) fun s ⟨x, zs, e, hm, _, _, h⟩ => ⟨x, e, h x hm⟩
        refine ds_appX (i := 5) (R := fun y => ∃ e : Ent, y = rowD e ∧ e.1 < n ∧ e.2.1 < n ∧ e.2.2 < n) rfl ((er_tup3X (P1 := fun u => u = natD xx) (P2 := fun u => u = natD yy) (er_any (er_var rfl rfl)) (er_any (er_var rfl rfl)) pk').imp fun s ⟨u1, u2, u3, e, e1, e2, d, e3, hd3⟩ => ⟨_, e, (xx, yy, d), by rw [e1, e2, e3] <;> rfl, hx, hy, hd3⟩) (by rw [List.length_map]; omega) fun y ⟨ee, ey, h1, h2, h3⟩ => ?_
        subst ey
        refine ⟨es ++ [ee], some (.d (natD i)), some (.d (natD xx)), some (.d (natD yy)), some (.tl gs), by rw [List.map_append] <;> rfl, fun z hz => ?_, by rw [List.length_append]; show es.length + 1 ≤ _; omega⟩
        rcases List.mem_append.mp hz with q | q
        · exact hro z q
        · rw [List.mem_singleton.mp q]
          exact ⟨h1, h2, h3⟩
    · subst er eds
      rw [range_len] at hel
      refine ds_setOwn (eo_lst1 (xs := []) ea_nil (by decide)) fun l10 xs e10 => ?_
      subst e10
      refine ds_forE (Pd := fun ds => ∃ k, ds = rangeD 0 k ∧ k < 5) (ite_range (er_draw (lim := 5) rfl (er_int 5) (by decide) (by decide)) fun k hk => by omega)
        (fun _ i r => ∃ (ps : List (Nat × Nat)) (x6 x7 x8 : Option Sh), r = [some (.bag b), some (.d (natD n)), some (.d (natD size)), some (.d (.tuple (rows.map lotD))), some (.d (lotD th)), some (.own l5 (es.map rowD)), x6, x7, x8, x9, some (.own l10 (ps.map duoD)), none] ∧ (∀ p ∈ ps, p.1 < n ∧ p.2 < n) ∧ ps.length ≤ i) (fun ds _ => ⟨[], _, _, _, rfl, (fun _ h => by cases h), Nat.le_refl _⟩)
        (fun ds ⟨k5, eds, hk5⟩ i d r' hd ⟨ps, y6, y7, y8, er, hps, hpl⟩ => ?_) fun ds ⟨k5, eds, hk5⟩ r' ⟨ps, y6, y7, y8, er, hps, hpl⟩ => ?_
      · subst er eds
        obtain ⟨rfl, hi⟩ := range_at hd
        refine ⟨_, _, gt_nameD, ds_asgX draw2 fun s ⟨x, y, e, ⟨xx, ex, hx⟩, ⟨yy, ey, hy⟩⟩ => ?_⟩
        subst ex ey
        refine ⟨_, _, _, e, gt_duo (p := (xx, yy)), ?_⟩
        have htx : th[xx]? = some (th.getD xx 0) := getD_some (by omega)
        have hty : th[yy]? = some (th.getD yy 0) := getD_some (by omega)
        refine ds_if1 (et_neN (gx_t (L := th) (k := xx) (er_var rfl rfl) (er_var rfl rfl) htx) (gx_t (L := th) (k := yy) (er_var rfl rfl) (er_var rfl rfl) hty)) (fun _ => ?_) fun _ => ds_next ⟨ps, _, _, _, rfl, hps, by omega⟩
        refine ds_app (i := 10) (y := duoD (min xx yy, max xx yy)) rfl (er_tup (xs := [natD (min xx yy), natD (max xx yy)]) (ea_cons (er_cb (ea_cons (er_var rfl rfl) (ea_cons (er_var rfl rfl) ea_nil)) (rxa_min (x := xx) (y := yy))) (ea_cons (er_cb (ea_cons (er_var rfl rfl) (ea_cons (er_var rfl rfl) ea_nil)) (rxa_max (x := xx) (y := yy))) ea_nil)) (show 2 ≤ 100000 by decide)) (by rw [List.length_map]; omega) ⟨ps ++ [(min xx yy, max xx yy)], some (.d (natD i)), some (.d (natD xx)), some (.d (natD yy)), by rw [List.map_append] <;> rfl, fun p hp => ?_, by rw [List.length_append]; show ps.length + 1 ≤ _; omega⟩
        rcases List.mem_append.mp hp with q | q
        · exact hps p q
        · rw [List.mem_singleton.mp q]
          exact ⟨show min xx yy < n by omega, show max xx yy < n by omega⟩
      · subst er eds
        rw [range_len] at hpl
        refine ds_freeze (i := 5) rfl (ds_freeze (i := 10) rfl ?_)
        have t1 := er_slTX (er_cbE (er_own (eo_sortRows (P := P) (w := w) (K := K) (C := C) (m := some b) (r := [some (.bag b), some (.d (natD n)), some (.d (natD size)), some (.d (.tuple (rows.map lotD))), some (.d (lotD th)), some (.tl (es.map rowD)), y6, y7, y8, x9, some (.tl (ps.map duoD)), none]) (n := n) (er_varL (i := 5) rfl) hro (by omega) (by omega))) fun xs => rxa_tupL) ep_none (ep_some (er_int 10))
        have t2 := er_cbE (er_own (eo_sortDuos (P := P) (w := w) (K := K) (C := C) (m := some b) (r := [some (.bag b), some (.d (natD n)), some (.d (natD size)), some (.d (.tuple (rows.map lotD))), some (.d (lotD th)), some (.tl (es.map rowD)), y6, y7, y8, x9, some (.tl (ps.map duoD)), none]) (er_varL (i := 10) rfl) (fun p hp => by have := hps p hp; omega) (by omega))) fun xs => rxa_tupL
        have t1' := t1.imp (P' := fun z => ∃ x, z = .d x ∧ ∃ es' : List Ent, x = .tuple (es'.map rowD) ∧ RowsOk n es' ∧ es'.length ≤ 10) fun s ⟨xs, e, R, eR, hm, _⟩ => ⟨_, e, R.take 10, by rw [cut10, eR, List.map_take], fun z hz => hro z ((hm z).mp (List.mem_of_mem_take hz)), by rw [List.length_take]; omega⟩
        have t2' := t2.imp (P' := fun z => ∃ x, z = .d x ∧ ∃ L : List (Nat × Nat), x = .tuple (L.map duoD) ∧ (∀ p ∈ L, p.1 < n ∧ p.2 < n) ∧ L.length ≤ 4) fun s ⟨xs, e, L, eL, hm, hl⟩ => ⟨_, e, L, by rw [eL], fun p hp => hps p ((hm p).mp hp), by omega⟩
        exact ds_ret (er_tup3X (P1 := fun u => u = natD n) (er_any (er_var rfl rfl)) t1' t2') fun s ⟨u1, u2, u3, e, e1, ⟨es', e2, h1, h2⟩, ⟨L, e3, h3, h4⟩⟩ => ⟨⟨n, es', L⟩, by rw [e, e1, e2, e3] <;> rfl, rfl, ⟨n1, n8, h1, h2, h3, h4⟩⟩⟩
end
end RD

end
section
set_option linter.all false
set_option maxRecDepth 100000
set_option maxHeartbeats 4000000
/-! B7: good facts. -/
namespace RD
open PySem PySem.Spec PyProof.Rows L2
section
variable {P : Program} {w : World} {K : PySem.W.Frag} {mg : Str → Option Value} {base : Heap} {C aW aP : Addr} {m : Option Addr} {r : Rho} {ta tb te : TE} {tu : TS} {O : Out} {wi : TI} {g : TG} {t : TT} {tz : TS} {b : Addr}
theorem et_isNX {A : PyData → Prop} (h : EvX K C m te r (fun z => ∃ x, z = .d x ∧ A x)) : EvT K C m (tTest (tOp rIsNo te (tC .non))) r (fun c => ∃ x, A x ∧ c = isNoneD x) := fun S0 H0 σ S H st Q q =>
  (er_opX (P := fun z => ∃ c, z = .d (.bool c) ∧ ∃ x, A x ∧ c = isNoneD x) h er_non (fun s ⟨x, e, _⟩ => by rw [e] <;> rfl) fun s1 s2 ⟨x, e, hA⟩ e2 => by
    subst e e2
    intro S H v w hs hv hw Q q
    exact rx_isN S H v w hs hv hw Q fun v s S' H' e => q v s S' H' ⟨_, e, x, hA, rfl⟩) S0 H0 σ S H st _ fun v s S1 H1 ⟨c, e, hx⟩ st1 hv => by
    subst e
    cases hv
    exact ⟨c, rfl, q c S1 H1 hx st1⟩
theorem ds_ifY {P : Bool → Prop} {tw : TS} (h : EvT K C m t r P) (h1 : P true → DS K C m tu r { O with nx := fun _ => False }) (h2 : P false → DS K C m tz r O) : DS K C m (tSeq (tIfS t tu tNext) tz) r O := fun S0 H0 σ S H D st k1 k2 k3 k4 =>
  h S0 H0 σ S H st _ fun c S1 H1 e st1 => by
    cases c with
    | true => exact ds_out (h1 e) S0 H0 σ S1 H1 D (st.step st1) k1 k2 k3 k4
    | false => exact ds_skip (h2 e) S0 H0 σ S1 H1 D (st.step st1) k1 k2 k3 k4
theorem cl_LGoodFacts (T : Bl K w mg C aW aP) (cC : Cl P w K mg base 4 "_law_clash" (PLClash K C)) (cF : Cl P w K mg base 4 "_law_facts" (PLFacts K C)) (d : Df K mg "_law_good_facts" sLGoodFacts ["_law_bag_here", "_law_names"]) : Cl P w K mg base 5 "_law_good_facts" (PLGoodFacts K C) :=
  pb_cl d scLGoodFacts (fun _ => rfl) (fun _ => rfl) fun f cdv A outer s H E a hr hp => ⟨_, dvLGoodFacts T cF (by omega) cC (by omega) hr, by
    obtain ⟨b, n⟩ := a
    have hp1 : 1 ≤ n := hp.1
    have hp2 : n ≤ 8 := hp.2
    refine ds_setX (P := fun z => ∃ fc : Fc, z = .d fc.d ∧ fc.n = n ∧ FcOk fc) (er_call1 (b, n) (ea_cons (er_var rfl rfl) (ea_cons (er_var rfl rfl) ea_nil)) ⟨hp1, hp2⟩ (fun s e => e) (.inr rfl)) (fun s ⟨x, e, _⟩ => by rw [e]; exact ⟨rfl, fun _ z => nomatch z⟩) fun s ⟨fc, e, hn, ho⟩ => ?_
    subst e
    refine ds_for (ds := rangeD 0 20) (it_rangeN (n := 20) (er_int 20) (by decide)) (fun i r => ∃ (fc : Fc) (x : Option Sh), r = [some (.bag b), some (.d (natD n)), some (.d fc.d), x] ∧ fc.n = n ∧ FcOk fc ∧ fc.un.length + i ≤ 4) ⟨fc, none, rfl, hn, ho, ho.ul⟩ (fun i d r' hd ⟨fc, x, er, hn, ho, hu⟩ => ?_) fun r' ⟨fc, x, er, hn, ho, hu⟩ => ?_
    · subst er
      obtain ⟨rfl, hi⟩ := range_at hd
      have cl : EvX K C (some b) (tCall (PLClash K C) [] L2.E0 (tCons (tVar 2) tNil)) [some (.bag b), some (.d (natD n)), some (.d fc.d), some (.d (natD i))] (fun z => ∃ x, z = .d x ∧ ((x = .none ∧ NoClash fc) ∨ ((∃ xs, x = .tuple xs) ∧ fc.un ≠ []))) :=
        er_call1 fc (ea_cons (er_var rfl rfl) ea_nil) ho fun s e => by
          rcases e with ⟨e, h⟩ | ⟨⟨xs, e⟩, h⟩
          · exact ⟨.none, e, .inl ⟨rfl, h⟩⟩
          · exact ⟨.tuple xs, e, .inr ⟨⟨xs, rfl⟩, h⟩⟩
      refine ⟨_, _, gt_nameD, ds_ifY (tw := tNext) (et_isNX cl) (fun ⟨x, hx, ex⟩ => ds_break ?_) fun ⟨x, hx, ex⟩ => ?_⟩
      · rcases hx with ⟨rfl, h⟩ | ⟨⟨xs, rfl⟩, _⟩
        · exact ds_ret (er_var rfl rfl) fun s e => ⟨fc, e, hn, ho, h⟩
        · cases ex
      · rcases hx with ⟨rfl, h⟩ | ⟨_, hne⟩
        · cases ex
        · have hlen : fc.un.length ≠ 0 := fun z => hne (List.length_eq_zero_iff.mp z)
          refine ds_set1 (y := (⟨n, fc.es, fc.un.drop 1⟩ : Fc).d) ((er_tup (xs := [natD n, .tuple (fc.es.map rowD), .tuple (cutD (fc.un.map duoD) (some 1) none)]) (ea_cons (er_var rfl rfl) (ea_cons (er_op (er_var rfl rfl) (er_int 1) (rx_ixT fc_1)) (ea_cons (er_slT (er_op (er_var rfl rfl) (er_int 2) (rx_ixT fc_2)) (ep_some (er_int 1)) ep_none) ea_nil))) (show 3 ≤ 100000 by decide)).is (by rw [cut1, ← List.map_drop] <;> rfl)) ⟨⟨n, fc.es, fc.un.drop 1⟩, _, rfl, rfl, ⟨by rw [← hn]; exact ho.n1, by rw [← hn]; exact ho.n8, by rw [← hn]; exact ho.es, ho.el, fun p hp => by rw [← hn]; exact ho.un p (List.mem_of_mem_drop hp), ?_⟩, ?_⟩
          · show (fc.un.drop 1).length ≤ 4
            rw [List.length_drop]
            omega
          · show (fc.un.drop 1).length + (i + 1) ≤ 4
            rw [List.length_drop]
            omega
    · rw [range_len] at hu
      omega⟩
end
end RD

end
section
set_option linter.all false
set_option maxRecDepth 100000
set_option maxHeartbeats 4000000
/-! B8: the promise of the bag. -/
namespace RD
open PySem PySem.Spec PyProof.Rows L2
def PLBag (K : PySem.W.Frag) (C : Addr) : Sp := fun vs H Q _ => C = C ∧ ∃ (a : Addr) (ns : List Int), vs = [.ref a] ∧ SqL K H a (ns.map V.int) ∧ ns.length ≤ 100 ∧ ∀ b H', H b = none → (∀ c o, H c = some o → H' c = some o) → BagOk H' b → Q (.ref b) H'
end RD

end
section
set_option linter.all false
set_option maxRecDepth 100000
set_option maxHeartbeats 4000000
namespace RD
open PySem PySem.Spec PyProof.Rows L2
abbrev sLBag : Stmt := topS 42
abbrev NLBag : List Str := ["_law_script", "_law_great", "_law_small", "_law_cell"]
theorem scLBag : FnScope NLBag ["_law_script"] (defScope sLBag) := ⟨rfl, rfl, rfl, by decide +kernel, rfl, by decide +kernel, by decide +kernel⟩
def tLBag (K : PySem.W.Frag) (C : Addr) : TS :=
  (tSeq (tPar 1 2 (tCons (tC (.int 0)) (tCons (tOp (rI0 fun i j => .int (i + j)) (tC (.int 11236)) (tOp (rI CMul fun i j => .int (i * j)) (tC (.int 67)) (tCB (rLenK K) (tCons (tVar 0) tNil)))) tNil)))
    (tSeq (tFor (iList K (tSl (rSlL K) (tVar 0) tNoPart (tPart (tC (.int 63))))) (gName 3) (tIfS (tTest (tOp (rI0 fun i j => .bl (decide (j ≤ i))) (tVar 3) (tOp (rI CPow fun i j => .int (i ^ j.toNat)) (tC (.int 10)) (tC (.int 18))))) (tAsg (tOp (rI0 fun i j => .int (i - j)) (tOp (rI0 fun i j => .int (i + j)) (tOp (rI CMul fun i j => .int (i * j)) (tVar 1) (tC (.int 61))) (tVar 3)) (tOp (rI CPow fun i j => .int (i ^ j.toNat)) (tC (.int 10)) (tC (.int 18)))) (gName 1)) (tSeq (tAsg (tOp (rI0 fun i j => .int (i + j)) (tOp (rI0 fun i j => .int (i + j)) (tOp (rI CMul fun i j => .int (i * j)) (tVar 2) (tC (.int 2862933555777941757))) (tOp (rI CMul fun i j => .int (i * j)) (tC (.int 2)) (tCB rAbs1 (tCons (tVar 3) tNil)))) (tCB rInt1 (tCons (tOp (rI0 fun i j => .bl (decide (i < j))) (tVar 3) (tC (.int 0))) tNil))) (gName 2))
    (tAsg (tOp (rI (fun _ j => 0 < j) fun i j => .int (i % j)) (tCB rInt1 (tCons (tVar 2) tNil)) (tC (.int 2305843009213693951))) (gName 2)))))
    (tRet (tLst (tCons (tVar 1) (tCons (tVar 2) (tCons (tC (.int 0)) tNil)))))))
set_option maxHeartbeats 8000000 in
theorem dvLBag {P : Program} {w : World} {K : PySem.W.Frag} {mg : Str → Option Value} {base : Heap} {C aW aP : Addr} {f : Addr} {cdv : Value} {A : Around} {outer : List Env} {s : Shared} {H : Hp} {E : XK} {k : Nat} (T : Bl K w mg C aW aP)  (hr : Room k (A.deeper (envOfC "_law_bag" (defScope sLBag) s.heap.objs.size f cdv))) :
    PSs (cxOf L2.CX0 P w K mg base NLBag "_law_bag" (defScope sLBag) f cdv A outer s H E).nox (defBody sLBag) (tLBag K C) :=
  (pss_cons (ps_par (i := 1) (j := 2) rfl scLBag.nd rfl rfl (by decide) rfl rfl (pa_cons pe_int (pa_cons (pe_op op_add pe_int (pe_op op_mul pe_int (pe_callB call_len_seq (by rfl) T.len_ PySem.boot_len (pa_cons (pv 0) pa_nil)))) pa_nil)) (by rfl))
    (pss_cons (ps_for PassesOwn.never rfl (pi_list (pe_slice sl_list (pv 0) po_none (po_some pe_int))) (pg_name (i := 3) scLBag.nd rfl (Or.inl rfl)) (pss_one (ps_if (pt_cmpR op_ge (pv 3) (pe_op op_pow pe_int pe_int) (nomark _)) (pss_one (ps_set (i := 1) scLBag.nd rfl (Or.inl rfl) (pe_op op_sub (pe_op op_add (pe_op op_mul (pv 1) pe_int) (pv 3)) (pe_op op_pow pe_int pe_int)))) (pss_cons (ps_set (i := 2) scLBag.nd rfl (Or.inl rfl) (pe_op op_add (pe_op op_add (pe_op op_mul (pv 2) pe_int) (pe_op op_mul pe_int (pe_callB call_abs (by rfl) T.abs_ (by decide +kernel) (pa_cons (pv 3) pa_nil)))) (pe_callTy call_int1 (by rfl) T.int_ (by decide +kernel) (pa_cons (pe_cmpR op_lt (pv 3) pe_int (nomark _)) pa_nil))))
    (pss_one (ps_set (i := 2) scLBag.nd rfl (Or.inl rfl) (pe_op op_mod (pe_callTy call_int1 (by rfl) T.int_ (by decide +kernel) (pa_cons (pv 2) pa_nil)) pe_int)))))))
    (pss_one (ps_ret (pe_lst (pa_cons (pv 1) (pa_cons (pv 2) (pa_cons pe_int pa_nil))))))))
abbrev sLaw : Stmt := topS 68
abbrev NLaw : List Str := ["_law_script", "_law_bag_here", "_law_turn", "_law_names", "_law_facts_here", "_law_marks_here", "_law_rows_here", "_law_again", "_law_one", "_law_some", "_law_other", "_law_is_same", "_law_told"]
theorem scLaw : FnScope NLaw ["_law_script"] (defScope sLaw) := ⟨rfl, rfl, rfl, by decide +kernel, rfl, by decide +kernel, by decide +kernel⟩
def tLaw (K : PySem.W.Frag) (C : Addr) (nLFormula : Nat) (nLCount : Nat) (nLPlain : Nat) (nLNear : Nat) : TS :=
  (tSeq (tAsg (tCall (PLBag K C) [] L2.E0 (tCons (tVar 0) tNil)) (gName 1))
    (tSeq (tFor (iRng1 (tCons (tC (.int 4)) tNil)) (gName 2) (tSeq (tAsg (tOp (rI0 fun i j => .int (i + j)) (tC (.int 1)) (tCall (PLDraw K C) [] L2.E0 (tCons (tVar 1) (tCons (tC (.int 8)) tNil)))) (gName 3))
    (tSeq (tAsg (tCall (PLGoodFacts K C) [] L2.E0 (tCons (tVar 1) (tCons (tVar 3) tNil))) (gName 4))
    (tSeq (tAsg (tCall (PLAllMarks K C) [] L2.E0 (tCons (tVar 4) tNil)) (gName 5))
    (tSeq (tAsg (tCall (PLRows K C) [] L2.E0 (tCons (tVar 4) (tCons (tVar 5) tNil))) (gName 6))
    (tFor (iRng1 (tCons (tC (.int 6)) tNil)) (gName 7) (tSeq (tAsg (tCall (PLFormula K C nLFormula) [] L2.E0 (tCons (tVar 1) (tCons (tVar 3) (tCons (tCall (PLDraw K C) [] L2.E0 (tCons (tVar 1) (tCons (tC (.int 4)) tNil))) tNil)))) (gName 8))
    (tSeq (tAsg (tLst (tCons (tCall (PLNear K C nLNear) [] L2.E0 (tCons (tVar 1) (tCons (tVar 8) (tCons (tVar 3) tNil)))) (tCons (tCall (PLNear K C nLNear) [] L2.E0 (tCons (tVar 1) (tCons (tVar 8) (tCons (tVar 3) tNil)))) (tCons (tCall (PLFormula K C nLFormula) [] L2.E0 (tCons (tVar 1) (tCons (tVar 3) (tCons (tC (.int 3)) tNil)))) (tCons (tCall (PLPlain K C nLPlain) [] L2.E0 (tCons (tVar 5) (tCons (tVar 6) (tCons (tVar 8) tNil)))) tNil))))) (gName 9))
    (tSeq (tAsg (tCall (PLPick K C) [] L2.E0 (tCons (tVar 1) (tCons (tVar 9) tNil))) (gName 10))
    (tIfS (tTest (tOp (rI0 fun i j => .bl (decide (i ≤ j))) (tCall (PLCount K C nLCount) [] L2.E0 (tCons (tVar 10) tNil)) (tC (.int 15)))) (tSeq (tAsg (tOp (rEqD K) (tCall (PLPlain K C nLPlain) [] L2.E0 (tCons (tVar 5) (tCons (tVar 6) (tCons (tVar 8) tNil)))) (tCall (PLPlain K C nLPlain) [] L2.E0 (tCons (tVar 5) (tCons (tVar 6) (tCons (tVar 10) tNil))))) (gName 11))
    (tSeq (tAsg (tCall (PRoad K C) [] L2.E0 (tCons (tVar 4) (tCons (tVar 8) (tCons (tVar 10) tNil)))) (gName 12))
    (tSeq (tIfS (tOr (tTest (tOp (rNeD K) (tOp rNotNo (tVar 12) (tC .non)) (tVar 11))) (tTest (tOp rNe (tCB (rRepr K) (tCons (tCall (PRoad K C) [] L2.E0 (tCons (tVar 4) (tCons (tVar 8) (tCons (tVar 10) tNil)))) tNil)) (tCB (rRepr K) (tCons (tVar 12) tNil))))) (tRet (tC (.bl false))) tNext)
    (tSeq (tIfS (tTest (tOp rNe (tCB (rRepr K) (tCons (tLst (tCons (tCall (PSame K C) [] L2.E0 (tCons (tVar 4) (tCons (tVar 8) (tCons (tVar 10) tNil)))) (tCons (tCall (PSame K C) [] L2.E0 (tCons (tVar 4) (tCons (tVar 10) (tCons (tVar 8) tNil)))) tNil))) tNil)) (tCB (rRepr K) (tCons (tLst (tCons (tVar 11) (tCons (tVar 11) tNil))) tNil)))) (tRet (tC (.bl false))) tNext)
    (tIfS (tB (tVar 11)) (tSeq (tIfS (tOr (tNot (tB (tCall (PLIsRoad K C) [] L2.E0 (tCons (tVar 4) (tCons (tVar 5) (tCons (tVar 6) (tCons (tVar 8) (tCons (tVar 10) (tCons (tVar 12) tNil))))))))) (tTest (tOp rNotB (tCall (PIsRoad K C) [] L2.E0 (tCons (tVar 4) (tCons (tVar 8) (tCons (tVar 10) (tCons (tVar 12) tNil))))) (tC (.bl true))))) (tRet (tC (.bl false))) tNext)
    (tIfS (tTest (tOp rNotB (tCall (PIsRoad K C) [] L2.E0 (tCons (tVar 4) (tCons (tVar 10) (tCons (tVar 8) (tCons (tRevT K (tVar 12)) tNil))))) (tC (.bl true)))) (tRet (tC (.bl false))) tNext)) tNext))))) tNext))))))))))
    (tRet (tC (.bl true)))))
set_option maxHeartbeats 8000000 in
theorem dvLaw {P : Program} {w : World} {K : PySem.W.Frag} {mg : Str → Option Value} {base : Heap} {C aW aP : Addr} {f : Addr} {cdv : Value} {A : Around} {outer : List Env} {s : Shared} {H : Hp} {E : XK} {k : Nat} {nLFormula : Nat} {nLCount : Nat} {nLPlain : Nat} {nLNear : Nat} (T : Bl K w mg C aW aP) {jSame : Nat} (cSame : Cl P w K mg base jSame "same" (PSame K C)) (hjSame : jSame ≤ k)
    {jRoad : Nat} (cRoad : Cl P w K mg base jRoad "road" (PRoad K C)) (hjRoad : jRoad ≤ k)
    {jIsRoad : Nat} (cIsRoad : Cl P w K mg base jIsRoad "is_road" (PIsRoad K C)) (hjIsRoad : jIsRoad ≤ k)
    {jLBag : Nat} (cLBag : Cl P w K mg base jLBag "_law_bag" (PLBag K C)) (hjLBag : jLBag ≤ k)
    {jLDraw : Nat} (cLDraw : Cl P w K mg base jLDraw "_law_draw" (PLDraw K C)) (hjLDraw : jLDraw ≤ k)
    {jLPick : Nat} (cLPick : Cl P w K mg base jLPick "_law_pick" (PLPick K C)) (hjLPick : jLPick ≤ k)
    {jLFormula : Nat} (cLFormula : Cl P w K mg base jLFormula "_law_formula" (PLFormula K C nLFormula)) (hjLFormula : jLFormula ≤ k)
    {jLCount : Nat} (cLCount : Cl P w K mg base jLCount "_law_count" (PLCount K C nLCount)) (hjLCount : jLCount ≤ k)
    {jLAllMarks : Nat} (cLAllMarks : Cl P w K mg base jLAllMarks "_law_all_marks" (PLAllMarks K C)) (hjLAllMarks : jLAllMarks ≤ k)
    {jLGoodFacts : Nat} (cLGoodFacts : Cl P w K mg base jLGoodFacts "_law_good_facts" (PLGoodFacts K C)) (hjLGoodFacts : jLGoodFacts ≤ k)
    {jLRows : Nat} (cLRows : Cl P w K mg base jLRows "_law_rows" (PLRows K C)) (hjLRows : jLRows ≤ k)
    {jLIsRoad : Nat} (cLIsRoad : Cl P w K mg base jLIsRoad "_law_is_road" (PLIsRoad K C)) (hjLIsRoad : jLIsRoad ≤ k)
    {jLPlain : Nat} (cLPlain : Cl P w K mg base jLPlain "_law_plain" (PLPlain K C nLPlain)) (hjLPlain : jLPlain ≤ k)
    {jLNear : Nat} (cLNear : Cl P w K mg base jLNear "_law_near" (PLNear K C nLNear)) (hjLNear : jLNear ≤ k) (hr : Room k (A.deeper (envOfC "law" (defScope sLaw) s.heap.objs.size f cdv))) (hg0 : (A.deeper (envOfC "law" (defScope sLaw) s.heap.objs.size f cdv)).guards = some []) :
    PSs (cxOf L2.CX0 P w K mg base NLaw "law" (defScope sLaw) f cdv A outer s H E).nox (defBody sLaw) (tLaw K C nLFormula nLCount nLPlain nLNear) :=
  (pss_cons (ps_set (i := 1) scLaw.nd rfl (Or.inl rfl) (pe_d cLBag hr (by omega) (by rfl) (pa_cons (pv 0) pa_nil)))
    (pss_cons (ps_for PassesOwn.never rfl (pi_range1 (by rfl) T.range_ (pa_cons pe_int pa_nil)) (pg_name (i := 2) scLaw.nd rfl (Or.inl rfl)) (pss_cons (ps_set (i := 3) scLaw.nd rfl (Or.inl rfl) (pe_op op_add pe_int (pe_d cLDraw hr (by omega) (by rfl) (pa_cons (pv 1) (pa_cons pe_int pa_nil)))))
    (pss_cons (ps_set (i := 4) scLaw.nd rfl (Or.inl rfl) (pe_d cLGoodFacts hr (by omega) (by rfl) (pa_cons (pv 1) (pa_cons (pv 3) pa_nil))))
    (pss_cons (ps_set (i := 5) scLaw.nd rfl (Or.inl rfl) (pe_d cLAllMarks hr (by omega) (by rfl) (pa_cons (pv 4) pa_nil)))
    (pss_cons (ps_set (i := 6) scLaw.nd rfl (Or.inl rfl) (pe_d cLRows hr (by omega) (by rfl) (pa_cons (pv 4) (pa_cons (pv 5) pa_nil))))
    (pss_one (ps_for PassesOwn.never rfl (pi_range1 (by rfl) T.range_ (pa_cons pe_int pa_nil)) (pg_name (i := 7) scLaw.nd rfl (Or.inl rfl)) (pss_cons (ps_set (i := 8) scLaw.nd rfl (Or.inl rfl) (pe_d cLFormula hr (by omega) (by rfl) (pa_cons (pv 1) (pa_cons (pv 3) (pa_cons (pe_d cLDraw hr (by omega) (by rfl) (pa_cons (pv 1) (pa_cons pe_int pa_nil))) pa_nil)))))
    (pss_cons (ps_set (i := 9) scLaw.nd rfl (Or.inl rfl) (pe_lst (pa_cons (pe_d cLNear hr (by omega) (by rfl) (pa_cons (pv 1) (pa_cons (pv 8) (pa_cons (pv 3) pa_nil)))) (pa_cons (pe_d cLNear hr (by omega) (by rfl) (pa_cons (pv 1) (pa_cons (pv 8) (pa_cons (pv 3) pa_nil)))) (pa_cons (pe_d cLFormula hr (by omega) (by rfl) (pa_cons (pv 1) (pa_cons (pv 3) (pa_cons pe_int pa_nil)))) (pa_cons (pe_d cLPlain hr (by omega) (by rfl) (pa_cons (pv 5) (pa_cons (pv 6) (pa_cons (pv 8) pa_nil)))) pa_nil))))))
    (pss_cons (ps_set (i := 10) scLaw.nd rfl (Or.inl rfl) (pe_d cLPick hr (by omega) (by rfl) (pa_cons (pv 1) (pa_cons (pv 9) pa_nil))))
    (pss_one (ps_if (pt_cmpR op_le (pe_d cLCount hr (by omega) (by rfl) (pa_cons (pv 10) pa_nil)) pe_int (nomark _)) (pss_cons (ps_set (i := 11) scLaw.nd rfl (Or.inl rfl) (pe_cmpR (op_eqD hr.units) (pe_d cLPlain hr (by omega) (by rfl) (pa_cons (pv 5) (pa_cons (pv 6) (pa_cons (pv 8) pa_nil)))) (pe_d cLPlain hr (by omega) (by rfl) (pa_cons (pv 5) (pa_cons (pv 6) (pa_cons (pv 10) pa_nil)))) (nomark _)))
    (pss_cons (ps_set (i := 12) scLaw.nd rfl (Or.inl rfl) (pe_d cRoad hr (by omega) (by rfl) (pa_cons (pv 4) (pa_cons (pv 8) (pa_cons (pv 10) pa_nil)))))
    (pss_cons (ps_if (PW.pt (pw_or (pt_cmpR (op_neD hr.units) (pe_cmpR op_notN (pv 12) pe_non (nomark _)) (pv 11) (nomark _)) (pw_or1 (pt_cmpR op_ne (pe_callB (cr_repr hg0 hr) (by rfl) T.repr_ (by decide +kernel) (pa_cons (pe_d cRoad hr (by omega) (by rfl) (pa_cons (pv 4) (pa_cons (pv 8) (pa_cons (pv 10) pa_nil)))) pa_nil)) (pe_callB (cr_repr hg0 hr) (by rfl) T.repr_ (by decide +kernel) (pa_cons (pv 12) pa_nil)) (nomark _))))) (pss_one (ps_ret pe_bl)) pss_nil)
    (pss_cons (ps_if (pt_cmpR op_ne (pe_callB (cr_repr hg0 hr) (by rfl) T.repr_ (by decide +kernel) (pa_cons (pe_lst (pa_cons (pe_d cSame hr (by omega) (by rfl) (pa_cons (pv 4) (pa_cons (pv 8) (pa_cons (pv 10) pa_nil)))) (pa_cons (pe_d cSame hr (by omega) (by rfl) (pa_cons (pv 4) (pa_cons (pv 10) (pa_cons (pv 8) pa_nil)))) pa_nil))) pa_nil)) (pe_callB (cr_repr hg0 hr) (by rfl) T.repr_ (by decide +kernel) (pa_cons (pe_lst (pa_cons (pv 11) (pa_cons (pv 11) pa_nil))) pa_nil)) (nomark _)) (pss_one (ps_ret pe_bl)) pss_nil)
    (pss_one (ps_if (pt_val (pv 11)) (pss_cons (ps_if (PW.pt (pw_or (pt_not (pt_val (pe_d cLIsRoad hr (by omega) (by rfl) (pa_cons (pv 4) (pa_cons (pv 5) (pa_cons (pv 6) (pa_cons (pv 8) (pa_cons (pv 10) (pa_cons (pv 12) pa_nil))))))))) (pw_or1 (pt_cmpR op_notBl (pe_d cIsRoad hr (by omega) (by rfl) (pa_cons (pv 4) (pa_cons (pv 8) (pa_cons (pv 10) (pa_cons (pv 12) pa_nil))))) pe_bl (nomark _))))) (pss_one (ps_ret pe_bl)) pss_nil)
    (pss_one (ps_if (pt_cmpR op_notBl (pe_d cIsRoad hr (by omega) (by rfl) (pa_cons (pv 4) (pa_cons (pv 10) (pa_cons (pv 8) (pa_cons (pe_revT (pv 12)) pa_nil))))) pe_bl (nomark _)) (pss_one (ps_ret pe_bl)) pss_nil))) pss_nil)))))) pss_nil))))))))))))
    (pss_one (ps_ret pe_bl))))
end RD

end
section
set_option linter.all false
set_option maxRecDepth 100000
set_option maxHeartbeats 4000000
/-! B9: the bag; texts of data. -/
namespace RD
open PySem PySem.Spec PyProof.Rows L2
section
variable {P : Program} {w : World} {K : PySem.W.Frag} {mg : Str → Option Value} {base : Heap} {C aW aP : Addr} {m : Option Addr} {r : Rho} {ta tb te : TE} {tu : TS} {O : Out} {wi : TI} {g : TG} {t : TT} {tz : TS} {b : Addr}
theorem er_mul {i j : Int} (hc : CMul i j) (h1 : EvX K C m ta r (fun z => z = .d (.int i))) (h2 : EvX K C m tb r (fun z => z = .d (.int j))) : EvX K C m (tOp (rI CMul fun i j => .int (i * j)) ta tb) r (fun z => z = .d (.int (i * j))) :=
  er_op h1 h2 (rx_I hc fun S => .int _)
theorem er_add {i j : Int} (h1 : EvX K C m ta r (fun z => z = .d (.int i))) (h2 : EvX K C m tb r (fun z => z = .d (.int j))) : EvX K C m (tOp (rI0 fun i j => .int (i + j)) ta tb) r (fun z => z = .d (.int (i + j))) := er_op h1 h2 rx_add
theorem rxa_abs {i : Int} : RXA K C rAbs1 [.d (.int i)] (fun z => z = .d (.int (if i < 0 then -i else i))) := fun S H vs hs hv Q q => by
  cases hv with
  | cons h t =>
    cases t
    cases h
    exact ⟨i, rfl, q _ (.d (.int (if i < 0 then -i else i))) S H rfl (Stp.refl hs) (Dp.int _)⟩
theorem er_pow18 : EvX K C m (tOp (rI CPow fun i j => .int (i ^ j.toNat)) (tC (.int 10)) (tC (.int 18))) r (fun z => z = .d (.int ((10 : Int) ^ (18 : Int).toNat))) :=
  er_op (er_int 10) (er_int 18) (rx_I ⟨by decide, by decide, by decide⟩ fun S => .int _)
theorem ints_at {ns : List Int} {i : Nat} {d : PyData} (h : (ns.map PyData.int)[i]? = some d) : ∃ z, d = .int z := by
  rw [List.getElem?_map] at h
  cases hg : ns[i]? with
  | none =>
    rw [hg] at h
    cases h
  | some e =>
    rw [hg] at h
    cases h
    exact ⟨e, rfl⟩
theorem cut_ints (ns : List Int) (lo hi : Option Int) : ∃ ms : List Int, cutD (ns.map PyData.int) lo hi = ms.map PyData.int := by
  unfold cutD
  rw [← List.map_drop, ← List.map_take]
  exact ⟨_, rfl⟩
theorem cl_LBag (T : Bl K w mg C aW aP) (d : Df K mg "_law_bag" sLBag ["_law_script"]) : Cl P w K mg base 1 "_law_bag" (PLBag K C) := by
  obtain ⟨f, fd, F, hm, bi⟩ := d.ex
  refine ⟨f, fd, _, F.ok scLBag (fun vs H Q E h => ?_) (fun cdv A outer s H vs Q E hr h => ?_), hm, F.kp, bi⟩
  · obtain ⟨_, a, ns, rfl, _⟩ := h
    rfl
  · obtain ⟨_, a, ns, rfl, hS, hl, q⟩ := h
    refine ⟨_, dvLBag T hr, ?_⟩
    -- everything is stable
    have hd : Dp K H (.ref a) (.list (ns.map PyData.int)) := .lst hS (ints_dpa ns)
    have f0 : Fit K C H H (L2.start NLBag [.ref a]) [some (.d (.list (ns.map PyData.int))), none, none, none] := .it rfl hd (.no (.no (.no .nil)))
    have st := f0.st (Same.refl H)
    have main : DS K C none (tSeq (tPar 1 2 (tCons (tC (.int 0)) (tCons (tOp (rI0 fun i j => .int (i + j)) (tC (.int 11236)) (tOp (rI CMul fun i j => .int (i * j)) (tC (.int 67)) (tCB (rLenK K) (tCons (tVar 0) tNil)))) tNil)))
    (tSeq (tFor (iList K (tSl (rSlL K) (tVar 0) tNoPart (tPart (tC (.int 63))))) (gName 3) (tIfS (tTest (tOp (rI0 fun i j => .bl (decide (j ≤ i))) (tVar 3) (tOp (rI CPow fun i j => .int (i ^ j.toNat)) (tC (.int 10)) (tC (.int 18))))) (tAsg (tOp (rI0 fun i j => .int (i - j)) (tOp (rI0 fun i j => .int (i + j)) (tOp (rI CMul fun i j => .int (i * j)) (tVar 1) (tC (.int 61))) (tVar 3)) (tOp (rI CPow fun i j => .int (i ^ j.toNat)) (tC (.int 10)) (tC (.int 18)))) (gName 1)) (tSeq (tAsg (tOp (rI0 fun i j => .int (i + j)) (tOp (rI0 fun i j => .int (i + j)) (tOp (rI CMul fun i j => .int (i * j)) (tVar 2) (tC (.int 2862933555777941757))) (tOp (rI CMul fun i j => .int (i * j)) (tC (.int 2)) (tCB rAbs1 (tCons (tVar 3) tNil)))) (tCB rInt1 (tCons (tOp (rI0 fun i j => .bl (decide (i < j))) (tVar 3) (tC (.int 0))) tNil))) (gName 2))
    (tAsg (tOp (rI (fun _ j => 0 < j) fun i j => .int (i % j)) (tCB rInt1 (tCons (tVar 2) tNil)) (tC (.int 2305843009213693951))) (gName 2))))) tNext)) [some (.d (.list (ns.map PyData.int))), none, none, none] { nx := fun r => ∃ (g s' : Int) (x : Option Sh), r = [some (.d (.list (ns.map PyData.int))), some (.d (.int g)), some (.d (.int s')), x] ∧ 0 ≤ s' ∧ s' < 2305843009213693952 } := by
      refine ds_par2 (s1 := .d (.int 0)) (s2 := .d (.int (11236 + 67 * (ns.length : Int)))) (ea_cons (er_int 0) (ea_cons (er_add (er_int 11236) (er_mul (.inl ⟨by decide, by decide⟩) (er_int 67) ((er_cb (ea_cons (er_var rfl rfl) ea_nil) rxa_lenL).is (by rw [List.length_map])))) ea_nil)) rfl rfl (fun _ z => nomatch z) (fun _ z => nomatch z) ?_
      refine ds_for (ds := cutD (ns.map PyData.int) none (some 63)) (it_list (er_ownD (eo_sl (er_var rfl rfl) ep_none (ep_some (er_int 63))))) (fun i r => ∃ (g s' : Int) (x : Option Sh), r = [some (.d (.list (ns.map PyData.int))), some (.d (.int g)), some (.d (.int s')), x] ∧ 0 ≤ s' ∧ s' < 2305843009213693952) ⟨0, 11236 + 67 * (ns.length : Int), none, rfl, by omega, by omega⟩ (fun i d r' hd2 ⟨g, s', x, er, k0, k1⟩ => ?_) fun r' ⟨g, s', x, er, k0, k1⟩ => ds_next ⟨g, s', x, er, k0, k1⟩
      subst er
      obtain ⟨ms, ems⟩ := cut_ints ns none (some 63)
      rw [ems] at hd2
      obtain ⟨z, rfl⟩ := ints_at hd2
      refine ⟨_, _, gt_nameD, ds_if1 (et_val (er_op (er_var (s := .d (.int z)) rfl rfl) er_pow18 rx_ge)) (fun _ => ?_) fun _ => ?_⟩
      · exact ds_set1 (er_op (er_add (er_mul (.inr ⟨by decide, by decide⟩) (er_var rfl rfl) (er_int 61)) (er_var rfl rfl)) er_pow18 rx_sub) ⟨_, s', _, rfl, k0, k1⟩
      · refine ds_set (er_add (er_add (er_mul (.inr ⟨by decide, by decide⟩) (er_var (s := .d (.int s')) rfl rfl) (er_int 2862933555777941757)) (er_mul (.inl ⟨by decide, by decide⟩) (er_int 2) (er_cb (ea_cons (er_var (s := .d (.int z)) rfl rfl) ea_nil) rxa_abs))) (er_cb (ea_cons (er_op (er_var (s := .d (.int z)) rfl rfl) (er_int 0) rx_lt) ea_nil) rxa_intB)) ?_
        obtain ⟨big, ebig⟩ : ∃ big : Int, big = s' * 2862933555777941757 + 2 * (if z < 0 then -z else z) + (if decide (z < 0) = true then 1 else 0) := ⟨_, rfl⟩
        rw [← ebig]
        refine ds_set1 (y := .int (big % 2305843009213693951)) (er_op (er_cb (ea_cons (er_var (s := .d (.int big)) rfl rfl) ea_nil) rxa_int) (er_int 2305843009213693951) (rx_I (show (0 : Int) < 2305843009213693951 by decide) fun S => .int _)) ⟨g, _, _, rfl, Int.emod_nonneg _ (by decide), ?_⟩
        have := Int.emod_lt_of_pos big (show (0 : Int) < 2305843009213693951 by decide)
        omega
    refine main H H _ H H { ({ nx := fun _ H' => Q .non H', rt := Q } : Ends) with nx := tRet (tLst (tCons (tVar 1) (tCons (tVar 2) (tCons (tC (.int 0)) tNil)))) { nx := fun _ H' => Q .non H', rt := Q } } st (fun r' σ' S' H' ⟨g, s', x, er, k0, k1⟩ st' => ?_) (fun _ _ _ _ x => x.elim) (fun _ _ _ _ x => x.elim) fun _ _ _ _ x => x.elim
    subst er
    have lst : EvO K C none (tLst (tCons (tVar 1) (tCons (tVar 2) (tCons (tC (.int 0)) tNil)))) [some (.d (.list (ns.map PyData.int))), some (.d (.int g)), some (.d (.int s')), x] (fun z => z = [g, s', 0].map PyData.int) :=
      eo_lst1 (xs := [.int g, .int s', .int 0]) (ea_cons (er_var rfl rfl) (ea_cons (er_var rfl rfl) (ea_cons (er_int 0) ea_nil))) (show 3 ≤ 100000 by decide)
    refine lst _ _ _ _ _ st' _ fun l vs xs S2 H2 ex hn st2 hS2 hH2 hd2 => ?_
    subst ex
    have ev := dpa_ints hd2
    subst ev
    have hl0 : H l = none := by
      cases hz : H l with
      | none => rfl
      | some o => exact absurd hn (st'.stp.dom l (by rw [hz]; exact fun z => nomatch z))
    exact q l H2 hl0 (fun c o e => st2.hh c o (fun z => nomatch z) (st'.stp.hh c o (fun z => nomatch z) e)) ⟨g, s', 0, hH2, k0, k1⟩
/-! texts -/
def strR : PyData → Str
  | .none => "None"
  | d => d.shown
structure ShowOk (d : PyData) : Prop where
  s : d.showable = true
  n : d.hasDict = false
  dp : d.depth ≤ 60
  l : d.shown.length ≤ 100000
theorem rxa_repr {d : PyData} (h : d = .none ∨ ((∃ xs, d = .list xs ∨ d = .tuple xs) ∧ ShowOk d)) : RXA K C (rRepr K) [.d d] (fun z => z = .d (.str (strR d))) := fun S H vs hs hv Q q => by
  cases hv with
  | @cons v _ _ _ h1 ht =>
    cases ht
    have h1' : Dp K S v d := h1
    refine ⟨v, d, rfl, dp_mono hs h1', ?_⟩
    rcases h with rfl | ⟨⟨xs, hx⟩, ho⟩
    · cases h1'
      exact .inr ⟨rfl, q _ (.d (.str "None")) S H rfl (Stp.refl hs) (Dp.str _)⟩
    · have hr : ∃ a, v = V.ref a := by
        rcases hx with rfl | rfl
        · cases h1'
          exact ⟨_, rfl⟩
        · cases h1'
          exact ⟨_, rfl⟩
      refine .inl ⟨hr, ho.s, ho.n, ho.dp, sz100 ho.l, q _ (.d (.str d.shown)) S H ?_ (Stp.refl hs) (Dp.str _)⟩
      rcases hx with rfl | rfl <;> rfl
theorem sumL_le {B : Nat} : ∀ (l : List Str), (∀ y ∈ l, y.length ≤ B) → (l.map (·.length)).sum ≤ l.length * B
  | [], _ => Nat.zero_le _
  | x :: l, h => by
    have h1 := h x List.mem_cons_self
    have h2 := sumL_le l fun y hy => h y (List.mem_cons_of_mem _ hy)
    rw [List.map_cons, List.sum_cons, List.length_cons, Nat.succ_mul]
    omega
theorem tup_len (ts : List Str) : (tupleText ts).length ≤ (ts.map (·.length)).sum + ts.length * 2 + 3 := by
  unfold tupleText
  rw [strLen_append, strLen_append]
  have h := StrLaws.join_length_le ", " ts
  have e1 : ("(" : Str).length = 1 := by decide +kernel
  have e2 : (", " : Str).length = 2 := by decide +kernel
  have e3 : (Str.ofString (if ts.length == 1 then ",)" else ")" : String)).length ≤ 2 := by
    split <;> decide +kernel
  rw [e2] at h
  omega
theorem wd_text (v : Wd) : (PyData.str v.s).shown.length ≤ 10 := by cases v <;> decide +kernel
theorem nm_text : ∀ n : Nat, n < 8 → (PyData.int (n : Int)).shown.length ≤ 10 ∧ (PyData.int (n : Int)).showable = true
  | 0, _ | 1, _ | 2, _ | 3, _ | 4, _ | 5, _ | 6, _ | 7, _ => by decide +kernel
  | n + 8, h => absurd h (by omega)
theorem f_text : ∀ f : F, f.lt 8 = true → f.d.shown.length ≤ 20 * f.sz ∧ f.d.showable = true ∧ f.d.hasDict = false
  | .nm n, h => by
    obtain ⟨h1, h2⟩ := nm_text n (of_decide_eq_true h)
    refine ⟨?_, h2, by simp only [F.d, PyData.hasDict]⟩
    show (PyData.int (n : Int)).shown.length ≤ 20 * 1
    omega
  | .op v a b, h => by
    obtain ⟨l1, l2⟩ := flt h
    obtain ⟨a1, a2, a3⟩ := f_text a l1
    obtain ⟨b1, b2, b3⟩ := f_text b l2
    have w1 := wd_text v
    refine ⟨?_, ?_, ?_⟩
    · have := tup_len [(PyData.str v.s).shown, a.d.shown, b.d.shown]
      simp only [F.d, PyData.shown, PyData.shownAll, List.map_cons, List.map_nil, List.sum_cons, List.sum_nil, List.length_cons, List.length_nil, F.sz] at this w1 ⊢
      omega
    · simp only [F.d, PyData.showable, PyData.showableAll, a2, b2] <;> rfl
    · simp only [F.d, PyData.hasDict, PyData.hasDictAll, a3, b3] <;> rfl
theorem fs_text : ∀ l : List F, (∀ f ∈ l, f.lt 8 = true ∧ f.sz ≤ 15) → ((PyData.shownAll (l.map F.d)).map (·.length)).sum ≤ l.length * 300 ∧ (PyData.shownAll (l.map F.d)).length = l.length ∧ PyData.showableAll (l.map F.d) = true ∧ PyData.hasDictAll (l.map F.d) = false ∧ PyData.depthAll (l.map F.d) ≤ 7
  | [], _ => by simp [PyData.shownAll, PyData.showableAll, PyData.hasDictAll, PyData.depthAll]
  | f :: l, h => by
    obtain ⟨h1, h2⟩ := h f List.mem_cons_self
    obtain ⟨a1, a2, a3⟩ := f_text f h1
    obtain ⟨b1, b2, b3, b4, b5⟩ := fs_text l fun g hg => h g (List.mem_cons_of_mem _ hg)
    have d8 := sz_dep h2
    simp only [List.map_cons, PyData.shownAll, PyData.showableAll, PyData.hasDictAll, PyData.depthAll, List.sum_cons, List.length_cons, a2, a3, b2, b3, b4, depth_F, Bool.and_self, Bool.or_self, true_and]
    refine ⟨by omega, by omega⟩
theorem road_text {n : Nat} (hn : n ≤ 8) {f g : F} {l : List F} (h : RoadOk n f g l) : ShowOk (.tuple (l.map F.d)) := by
  have lt8 : ∀ f : F, f.lt n = true → f.lt 8 = true := by
    intro f
    induction f with
    | nm x =>
      intro h
      have h : x < n := of_decide_eq_true h
      exact decide_eq_true (by omega)
    | op v a b iha ihb =>
      intro h
      obtain ⟨l1, l2⟩ := flt h
      exact lt_op (iha l1) (ihb l2)
  obtain ⟨b1, b2, b3, b4, b5⟩ := fs_text l fun f hf => ⟨lt8 f (h.ok f hf).1, (h.ok f hf).2⟩
  have l40 := h.l40
  refine ⟨by simp only [PyData.showable, b3], by simp only [PyData.hasDict, b4], by simp only [PyData.depth]; omega, ?_⟩
  have := tup_len (PyData.shownAll (l.map F.d))
  simp only [PyData.shown]
  omega
theorem bools_text : ∀ a b : Bool, ShowOk (.list [.bool a, .bool b])
  | a, b => by
    refine ⟨by simp [PyData.showable, PyData.showableAll], by simp [PyData.hasDict, PyData.hasDictAll], by simp [PyData.depth, PyData.depthAll], ?_⟩
    cases a <;> cases b <;> decide +kernel
end
end RD

end
section
set_option linter.all false
set_option maxRecDepth 100000
set_option maxHeartbeats 4000000
/-! B10: the law's body. -/
namespace RD
open PySem PySem.Spec PyProof.Rows L2
theorem sz_pow : ∀ f : F, f.sz + 1 ≤ 2 ^ (f.dep + 1)
  | .nm _ => by show 1 + 1 ≤ 2 ^ (0 + 1); decide
  | .op v a b => by
    have h1 := sz_pow a
    have h2 := sz_pow b
    have e1 : 2 ^ (a.dep + 1) ≤ 2 ^ (max a.dep b.dep + 1) := Nat.pow_le_pow_right (by decide) (by omega)
    have e2 : 2 ^ (b.dep + 1) ≤ 2 ^ (max a.dep b.dep + 1) := Nat.pow_le_pow_right (by decide) (by omega)
    show 1 + a.sz + b.sz + 1 ≤ 2 ^ (1 + max a.dep b.dep + 1)
    have e3 : 2 ^ (1 + max a.dep b.dep + 1) = 2 ^ (max a.dep b.dep + 1) + 2 ^ (max a.dep b.dep + 1) := by
      rw [show 1 + max a.dep b.dep + 1 = (max a.dep b.dep + 1) + 1 by omega, Nat.pow_succ]
      omega
    omega
theorem sz_3 {f : F} (h : f.dep ≤ 3) : f.sz ≤ 15 := by
  have h1 := sz_pow f
  have h2 : 2 ^ (f.dep + 1) ≤ 2 ^ 4 := Nat.pow_le_pow_right (by decide) (by omega)
  have : (2 : Nat) ^ 4 = 16 := by decide
  omega
theorem lplain_ok {n : Nat} {k : Kn} (hk : KnOk n k) {f : F} (hf : FOk n f) : FOk n (lplain k f) := by
  obtain ⟨z, hz⟩ := steps_run hk f.sz f (mu_sz k f)
  rw [← run_plain hk hz]
  exact run_ok hk hz hf z (List.mem_of_getLast? (run_last hz))
section
variable {P : Program} {w : World} {K : PySem.W.Frag} {mg : Str → Option Value} {base : Heap} {C aW aP : Addr} {m : Option Addr} {r : Rho} {ta tb te : TE} {tu : TS} {O : Out} {wi : TI} {g : TG} {t : TT} {tz : TS} {b : Addr}
theorem Cl.mono {j k : Nat} {x : Str} {sp : Sp} (c : Cl P w K mg base j x sp) (h : j ≤ k) : Cl P w K mg base k x sp := by
  obtain ⟨f, fd, ps, G, h1, h2, h3⟩ := c.ex
  exact ⟨f, fd, ps, G.mono h, h1, h2, h3⟩
theorem ea_nilX {A : PyData → Prop} : EvA K C m tNil r (fun ss => ∃ xs, ss = dsOf xs ∧ xs.length = 0 ∧ ∀ x ∈ xs, A x) := fun S0 H0 σ S H st Q q => q [] [] S H ⟨[], rfl, rfl, fun _ h => by cases h⟩ (Stp.refl st.sh) .nil
theorem ea_all {A : PyData → Prop} {tr : TA} {n : Nat} (h : EvX K C m ta r (fun z => ∃ x, z = .d x ∧ A x)) (hr : EvA K C m tr r (fun ss => ∃ xs, ss = dsOf xs ∧ xs.length = n ∧ ∀ x ∈ xs, A x)) : EvA K C m (tCons ta tr) r (fun ss => ∃ xs, ss = dsOf xs ∧ xs.length = n + 1 ∧ ∀ x ∈ xs, A x) :=
  ea_consX (P2 := fun _ ss => ∃ xs, ss = dsOf xs ∧ xs.length = n ∧ ∀ x ∈ xs, A x) h (fun s ⟨x, e, _⟩ => by rw [e] <;> rfl) (fun _ _ => hr) fun s ss ⟨x, e, hx⟩ ⟨xs, e2, hl, hA⟩ => ⟨x :: xs, by rw [e, e2] <;> rfl, by rw [List.length_cons, hl], fun y hy => by
    rcases List.mem_cons.mp hy with q | q
    · rw [q]; exact hx
    · exact hA y q⟩
theorem er_revT {ds : List PyData} (h : EvX K C m te r (fun z => z = .d (.tuple ds))) : EvX K C m (tRevT K te) r (fun z => z = .d (.tuple ds.reverse)) := fun S0 H0 σ S H x Q q =>
  h S0 H0 σ S H x _ fun v w S1 H1 e st1 hv => by
    subst e
    have hv' : Dp K S1 v (.tuple ds) := hv
    cases hv' with
    | @tup a vs _ hq ha =>
      refine ⟨a, vs, rfl, same_t st1.sh hq, fun p hp => ?_⟩
      have sn : Stp m S1 H1 (upd S1 p (.tup vs.reverse)) (upd H1 p (.tup vs.reverse)) := Stp.new st1.sh hp
      exact q (.ref p) (.d _) _ _ rfl (st1.trans sn) (.tup (.inl (.inl upd_same)) (dpa_mono sn.ss (dpa_rev ha)))
theorem rx_neS {x : Str} : RX K C rNe (.d (.str x)) (.d (.str x)) (fun z => z = .d (.bool false)) := fun S H v w hs h1 h2 Q q => by
  have h1' : Dp K S v (.str x) := h1
  have h2' : Dp K S w (.str x) := h2
  cases h1'
  cases h2'
  refine ⟨rfl, ?_⟩
  have e : (!decide (V.str x = V.str x)) = false := by simp
  rw [e]
  exact q _ (.d (.bool false)) S H rfl (Stp.refl hs) (Dp.bl _)
theorem eqv_bool (a c : Bool) : PyData.eqv (.bool a) (.bool c) = decide (a = c) := by
  cases a <;> cases c <;> simp [PyData.eqv]
theorem shaped_bool (a : Bool) : SeqAt.shaped (.bool a) = true := by cases a <;> decide +kernel
theorem isNone_road (o : Option (List F)) : isNoneD (roadD o) = !o.isSome := by cases o <;> rfl
/-- what is drawn and reckoned once for all the pairs -/
structure Once (fc : Fc) (M : List Nat) (R : List Ent) : Prop where
  ok : FcOk fc
  no : NoClash fc
  mr : IsMR fc M R
  rl : R.length ≤ 100
theorem Once.kn {fc : Fc} {M : List Nat} {R : List Ent} (h : Once fc M R) : KnOk fc.n (lkn M R) := kn_ok h.mr.kn h.ok.es
abbrev lRho (b : Addr) (fc : Fc) (M : List Nat) (R : List Ent) (x2 x7 x8 x9 x10 x11 x12 : Option Sh) : Rho := [none, some (.bag b), x2, some (.d (natD fc.n)), some (.d fc.d), some (.tl (M.map natD)), some (.tl (R.map rowD)), x7, x8, x9, x10, x11, x12]
/-- the checks of one pair -/
theorem ds_checks {fc : Fc} {M : List Nat} {R : List Ent} {f h : F} {x2 x7 x9 x11 x12 : Option Sh} {O : Out} (on : Once fc M R) (hf : FOk fc.n f) (hh : FOk fc.n h) (k : ∀ x11 x12, O.nx (lRho b fc M R x2 x7 (some (.d f.d)) x9 (some (.d h.d)) x11 x12)) :
    DS K C (some b) (tSeq (tAsg (tOp (rEqD K) (tCall (PLPlain K C 8) [] L2.E0 (tCons (tVar 5) (tCons (tVar 6) (tCons (tVar 8) tNil)))) (tCall (PLPlain K C 8) [] L2.E0 (tCons (tVar 5) (tCons (tVar 6) (tCons (tVar 10) tNil))))) (gName 11))
    (tSeq (tAsg (tCall (PRoad K C) [] L2.E0 (tCons (tVar 4) (tCons (tVar 8) (tCons (tVar 10) tNil)))) (gName 12))
    (tSeq (tIfS (tOr (tTest (tOp (rNeD K) (tOp rNotNo (tVar 12) (tC .non)) (tVar 11))) (tTest (tOp rNe (tCB (rRepr K) (tCons (tCall (PRoad K C) [] L2.E0 (tCons (tVar 4) (tCons (tVar 8) (tCons (tVar 10) tNil)))) tNil)) (tCB (rRepr K) (tCons (tVar 12) tNil))))) (tRet (tC (.bl false))) tNext)
    (tSeq (tIfS (tTest (tOp rNe (tCB (rRepr K) (tCons (tLst (tCons (tCall (PSame K C) [] L2.E0 (tCons (tVar 4) (tCons (tVar 8) (tCons (tVar 10) tNil)))) (tCons (tCall (PSame K C) [] L2.E0 (tCons (tVar 4) (tCons (tVar 10) (tCons (tVar 8) tNil)))) tNil))) tNil)) (tCB (rRepr K) (tCons (tLst (tCons (tVar 11) (tCons (tVar 11) tNil))) tNil)))) (tRet (tC (.bl false))) tNext)
    (tIfS (tB (tVar 11)) (tSeq (tIfS (tOr (tNot (tB (tCall (PLIsRoad K C) [] L2.E0 (tCons (tVar 4) (tCons (tVar 5) (tCons (tVar 6) (tCons (tVar 8) (tCons (tVar 10) (tCons (tVar 12) tNil))))))))) (tTest (tOp rNotB (tCall (PIsRoad K C) [] L2.E0 (tCons (tVar 4) (tCons (tVar 8) (tCons (tVar 10) (tCons (tVar 12) tNil))))) (tC (.bl true))))) (tRet (tC (.bl false))) tNext)
    (tIfS (tTest (tOp rNotB (tCall (PIsRoad K C) [] L2.E0 (tCons (tVar 4) (tCons (tVar 10) (tCons (tVar 8) (tCons (tRevT K (tVar 12)) tNil))))) (tC (.bl true)))) (tRet (tC (.bl false))) tNext)) tNext)))))
      (lRho b fc M R x2 x7 (some (.d f.d)) x9 (some (.d h.d)) x11 x12) O := by
  have hk := on.kn
  have hml := on.mr.ms.len
  have cl : ∀ c, IsClo fc c → c.kn = lkn M R := fun c hc => hc.kn.uniq on.mr.kn
  have df := sz_dep hf.2
  have dh := sz_dep hh.2
  have pf := lplain_ok hk hf
  have ph := lplain_ok hk hh
  have dpf := sz_dep pf.2
  have dph := sz_dep ph.2
  obtain ⟨s, es⟩ : ∃ s, s = decide (lplain (lkn M R) f = lplain (lkn M R) h) := ⟨_, rfl⟩
  obtain ⟨o, eo⟩ : ∃ o, o = roadF (lkn M R) f h := ⟨_, rfl⟩
  have eos : o.isSome = s := by rw [eo, es]; exact road_none hk f h
  refine ds_set (y := .bool s) ((er_eqF (f := lplain (lkn M R) f) (g := lplain (lkn M R) h) (er_call1 (M, R, f) (ea_cons (er_varL rfl) (ea_cons (er_varL rfl) (ea_cons (er_var rfl rfl) ea_nil))) ⟨by rw [hml]; exact hf.1, df, show f.dep ≤ 40 by omega⟩ fun s e => e) (er_call1 (M, R, h) (ea_cons (er_varL rfl) (ea_cons (er_varL rfl) (ea_cons (er_var rfl rfl) ea_nil))) ⟨by rw [hml]; exact hh.1, dh, show h.dep ≤ 40 by omega⟩ fun s e => e) (by omega) (by omega)).is (by rw [es])) ?_
  have road : ∀ {x11 x12 : Option Sh}, EvX K C (some b) (tCall (PRoad K C) [] L2.E0 (tCons (tVar 4) (tCons (tVar 8) (tCons (tVar 10) tNil)))) (lRho b fc M R x2 x7 (some (.d f.d)) x9 (some (.d h.d)) x11 x12) (fun z => z = .d (roadD o)) := fun {x11 x12} =>
    er_call1 (fc, f, h) (ea_cons (er_var rfl rfl) (ea_cons (er_var rfl rfl) (ea_cons (er_var rfl rfl) ea_nil))) ⟨on.ok, on.no, hf, hh⟩ fun s ⟨c, hc, e⟩ => by
      rw [e, eo]
      show Sh.d (roadD (roadF c.kn f h)) = _
      rw [cl c hc]
  refine ds_set road ?_
  have rdOk : ∀ l, o = some l → RoadOk fc.n f h l ∧ ∀ q : F → F → Bool, (∀ f g, firstStep (lkn M R) f = some g → q f g = true) → (∀ x y, q x y = q y x) → Lk q l := fun l e => road_ok hk hf hh (by rw [← eo, e])
  have rep : ∀ {te : TE} {x11 x12 : Option Sh}, EvX K C (some b) te (lRho b fc M R x2 x7 (some (.d f.d)) x9 (some (.d h.d)) x11 x12) (fun z => z = .d (roadD o)) → EvX K C (some b) (tCB (rRepr K) (tCons te tNil)) (lRho b fc M R x2 x7 (some (.d f.d)) x9 (some (.d h.d)) x11 x12) (fun z => z = .d (.str (strR (roadD o)))) := fun he =>
    er_cb (ea_cons he ea_nil) (rxa_repr (by
      cases e : o with
      | none => exact .inl rfl
      | some l => exact .inr ⟨⟨_, .inr rfl⟩, road_text on.ok.n8 (rdOk l e).1⟩))
  refine ds_ifr (b := false) (et_is (et_or (a := false) (b := false) (et_is (et_val (er_op (er_op (er_var rfl rfl) er_non rx_notN) (er_var rfl rfl) (rx_neD (shaped_bool _) (shaped_bool _)))) (by rw [eqv_bool, isNone_road, Bool.not_not, eos]; simp)) fun _ => et_val (er_op (rep road) (rep (er_var rfl rfl)) rx_neS)) rfl) (fun e => nomatch e) fun _ => ?_
  have same : ∀ {x11 x12 : Option Sh} (i j : Nat) (p q : F), (i = 8 ∧ j = 10 ∧ p = f ∧ q = h ∨ i = 10 ∧ j = 8 ∧ p = h ∧ q = f) → EvX K C (some b) (tCall (PSame K C) [] L2.E0 (tCons (tVar 4) (tCons (tVar i) (tCons (tVar j) tNil)))) (lRho b fc M R x2 x7 (some (.d f.d)) x9 (some (.d h.d)) x11 x12) (fun z => z = .d (.bool s)) := fun {x11 x12} i j p q hij => by
    rcases hij with ⟨rfl, rfl, rfl, rfl⟩ | ⟨rfl, rfl, rfl, rfl⟩
    · exact er_call1 (fc, p, q) (ea_cons (er_var rfl rfl) (ea_cons (er_var rfl rfl) (ea_cons (er_var rfl rfl) ea_nil))) ⟨on.ok, on.no, hf, hh⟩ fun s' ⟨c, hc, e⟩ => by
        rw [e, es]
        show Sh.d (.bool (decide (lastF c.kn p = lastF c.kn q))) = _
        rw [cl c hc, lastF_eq hk, lastF_eq hk]
    · exact er_call1 (fc, p, q) (ea_cons (er_var rfl rfl) (ea_cons (er_var rfl rfl) (ea_cons (er_var rfl rfl) ea_nil))) ⟨on.ok, on.no, hh, hf⟩ fun s' ⟨c, hc, e⟩ => by
        rw [e, es]
        show Sh.d (.bool (decide (lastF c.kn p = lastF c.kn q))) = _
        rw [cl c hc, lastF_eq hk, lastF_eq hk, show decide (lplain (lkn M R) p = lplain (lkn M R) q) = decide (lplain (lkn M R) q = lplain (lkn M R) p) from by simp [eq_comm]]
  refine ds_ifr (b := false) (et_val (er_op (er_cb (ea_cons (er_lst (xs := [.bool s, .bool s]) (ea_cons (same 8 10 f h (.inl ⟨rfl, rfl, rfl, rfl⟩)) (ea_cons (same 10 8 h f (.inr ⟨rfl, rfl, rfl, rfl⟩)) ea_nil)) (show 2 ≤ 100000 by decide)) ea_nil) (rxa_repr (.inr ⟨⟨_, .inl rfl⟩, bools_text s s⟩))) (er_cb (ea_cons (er_lst (xs := [.bool s, .bool s]) (ea_cons (er_var rfl rfl) (ea_cons (er_var rfl rfl) ea_nil)) (show 2 ≤ 100000 by decide)) ea_nil) (rxa_repr (.inr ⟨⟨_, .inl rfl⟩, bools_text s s⟩))) rx_neS)) (fun e => nomatch e) fun _ => ?_
  refine ds_if1 (et_B (er_var rfl rfl)) (fun e => ?_) fun _ => ds_next (k _ _)
  cases e2 : o with
  | none =>
    rw [e2] at eos
    rw [← eos] at e
    cases e
  | some l =>
    obtain ⟨rk, lk⟩ := rdOk l e2
    have wl : Walk (lstep M R) l := lk_walk (lk _ (fun f g q => lstep_of hk f g q) (lstep_symm M R))
    have ws : ∀ c, IsClo fc c → Walk (isStep c.kn) l := fun c hc => by
      rw [cl c hc]
      exact lk_walk (lk _ (fun f g q => isStep_of hk f g q) (isStep_symm _))
    have wr : ∀ c, IsClo fc c → Walk (isStep c.kn) l.reverse := fun c hc => by
      rw [cl c hc]
      exact lk_walk (lk_rev (isStep_symm _) (lk _ (fun f g q => isStep_of hk f g q) (isStep_symm _)))
    refine ds_ifr (b := false) (et_is (et_or (a := !true) (b := false) (et_not (et_B (er_call1 (fc, M, R, f, h, l) (ea_cons (er_var rfl rfl) (ea_cons (er_varL rfl) (ea_cons (er_varL rfl) (ea_cons (er_var rfl rfl) (ea_cons (er_var rfl rfl) (ea_cons (er_var rfl rfl) ea_nil)))))) ⟨hml, on.rl, rk, wl⟩ fun s e => e))) fun _ => et_is (et_val (er_op (er_call1 (P := fun z => z = .d (.bool true)) (fc, f, h, l) (ea_cons (er_var rfl rfl) (ea_cons (er_var rfl rfl) (ea_cons (er_var rfl rfl) (ea_cons (er_var rfl rfl) ea_nil)))) ⟨on.ok, on.no, rk, ws⟩ fun s e => e) (er_bl true) rx_notB)) rfl) rfl) (fun e => nomatch e) fun _ => ?_
    exact ds_if1 (b := false) (et_is (et_val (er_op (er_call1 (P := fun z => z = .d (.bool true)) (fc, h, f, l.reverse) (ea_cons (er_var rfl rfl) (ea_cons (er_var rfl rfl) (ea_cons (er_var rfl rfl) (ea_cons ((er_revT (ds := l.map F.d) (er_var rfl rfl)).is (by rw [List.map_reverse])) ea_nil)))) ⟨on.ok, on.no, rev_ok rk, wr⟩ fun s e => e) (er_bl true) rx_notB)) rfl) (fun e => nomatch e) fun _ => ds_next (k _ _)
end
end RD

end
section
set_option linter.all false
set_option maxRecDepth 100000
set_option maxHeartbeats 4000000
/-! B11: the law's turns. -/
namespace RD
open PySem PySem.Spec PyProof.Rows L2
section
variable {P : Program} {w : World} {K : PySem.W.Frag} {mg : Str → Option Value} {base : Heap} {C aW aP : Addr} {m : Option Addr} {r : Rho} {b : Addr}
theorem law_run (a : Addr) (ns : List Int) (H : Hp) (hS : SqL K H a (ns.map V.int)) (hl : ns.length ≤ 100) : tLaw K C 4 8 8 4 { nx := fun _ _ => V.non = V.bl true, rt := fun v _ => v = V.bl true } (L2.start NLaw [.ref a]) H := by
  refine ⟨.ref a, rfl, rfl, a, ns, rfl, hS, hl, fun b H' hb hk hB => ?_⟩
  have f0 : Fit K C (fun _ => none) H' ((L2.start NLaw [.ref a]).set 1 (some (.ref b))) [none, none, none, none, none, none, none, none, none, none, none, none, none] :=
    .no (.no (.no (.no (.no (.no (.no (.no (.no (.no (.no (.no (.no .nil))))))))))))
  have st := (f0.stm (m := some b) (fun _ _ e => nomatch e) (fun c e => by cases e; exact bag_ne hB)).put (i := 1) (v := .ref b) (s := .bag b) rfl (fun c e => by cases e; rfl) ⟨rfl, rfl, hB⟩
  have main : DS K C (some b) (tSeq (tFor (iRng1 (tCons (tC (.int 4)) tNil)) (gName 2) (tSeq (tAsg (tOp (rI0 fun i j => .int (i + j)) (tC (.int 1)) (tCall (PLDraw K C) [] L2.E0 (tCons (tVar 1) (tCons (tC (.int 8)) tNil)))) (gName 3))
    (tSeq (tAsg (tCall (PLGoodFacts K C) [] L2.E0 (tCons (tVar 1) (tCons (tVar 3) tNil))) (gName 4))
    (tSeq (tAsg (tCall (PLAllMarks K C) [] L2.E0 (tCons (tVar 4) tNil)) (gName 5))
    (tSeq (tAsg (tCall (PLRows K C) [] L2.E0 (tCons (tVar 4) (tCons (tVar 5) tNil))) (gName 6))
    (tFor (iRng1 (tCons (tC (.int 6)) tNil)) (gName 7) (tSeq (tAsg (tCall (PLFormula K C 4) [] L2.E0 (tCons (tVar 1) (tCons (tVar 3) (tCons (tCall (PLDraw K C) [] L2.E0 (tCons (tVar 1) (tCons (tC (.int 4)) tNil))) tNil)))) (gName 8))
    (tSeq (tAsg (tLst (tCons (tCall (PLNear K C 4) [] L2.E0 (tCons (tVar 1) (tCons (tVar 8) (tCons (tVar 3) tNil)))) (tCons (tCall (PLNear K C 4) [] L2.E0 (tCons (tVar 1) (tCons (tVar 8) (tCons (tVar 3) tNil)))) (tCons (tCall (PLFormula K C 4) [] L2.E0 (tCons (tVar 1) (tCons (tVar 3) (tCons (tC (.int 3)) tNil)))) (tCons (tCall (PLPlain K C 8) [] L2.E0 (tCons (tVar 5) (tCons (tVar 6) (tCons (tVar 8) tNil)))) tNil))))) (gName 9))
    (tSeq (tAsg (tCall (PLPick K C) [] L2.E0 (tCons (tVar 1) (tCons (tVar 9) tNil))) (gName 10))
    (tIfS (tTest (tOp (rI0 fun i j => .bl (decide (i ≤ j))) (tCall (PLCount K C 8) [] L2.E0 (tCons (tVar 10) tNil)) (tC (.int 15)))) (tSeq (tAsg (tOp (rEqD K) (tCall (PLPlain K C 8) [] L2.E0 (tCons (tVar 5) (tCons (tVar 6) (tCons (tVar 8) tNil)))) (tCall (PLPlain K C 8) [] L2.E0 (tCons (tVar 5) (tCons (tVar 6) (tCons (tVar 10) tNil))))) (gName 11))
    (tSeq (tAsg (tCall (PRoad K C) [] L2.E0 (tCons (tVar 4) (tCons (tVar 8) (tCons (tVar 10) tNil)))) (gName 12))
    (tSeq (tIfS (tOr (tTest (tOp (rNeD K) (tOp rNotNo (tVar 12) (tC .non)) (tVar 11))) (tTest (tOp rNe (tCB (rRepr K) (tCons (tCall (PRoad K C) [] L2.E0 (tCons (tVar 4) (tCons (tVar 8) (tCons (tVar 10) tNil)))) tNil)) (tCB (rRepr K) (tCons (tVar 12) tNil))))) (tRet (tC (.bl false))) tNext)
    (tSeq (tIfS (tTest (tOp rNe (tCB (rRepr K) (tCons (tLst (tCons (tCall (PSame K C) [] L2.E0 (tCons (tVar 4) (tCons (tVar 8) (tCons (tVar 10) tNil)))) (tCons (tCall (PSame K C) [] L2.E0 (tCons (tVar 4) (tCons (tVar 10) (tCons (tVar 8) tNil)))) tNil))) tNil)) (tCB (rRepr K) (tCons (tLst (tCons (tVar 11) (tCons (tVar 11) tNil))) tNil)))) (tRet (tC (.bl false))) tNext)
    (tIfS (tB (tVar 11)) (tSeq (tIfS (tOr (tNot (tB (tCall (PLIsRoad K C) [] L2.E0 (tCons (tVar 4) (tCons (tVar 5) (tCons (tVar 6) (tCons (tVar 8) (tCons (tVar 10) (tCons (tVar 12) tNil))))))))) (tTest (tOp rNotB (tCall (PIsRoad K C) [] L2.E0 (tCons (tVar 4) (tCons (tVar 8) (tCons (tVar 10) (tCons (tVar 12) tNil))))) (tC (.bl true))))) (tRet (tC (.bl false))) tNext)
    (tIfS (tTest (tOp rNotB (tCall (PIsRoad K C) [] L2.E0 (tCons (tVar 4) (tCons (tVar 10) (tCons (tVar 8) (tCons (tRevT K (tVar 12)) tNil))))) (tC (.bl true)))) (tRet (tC (.bl false))) tNext)) tNext))))) tNext))))))))))
    (tRet (tC (.bl true)))) [none, some (.bag b), none, none, none, none, none, none, none, none, none, none, none] { rt := fun s => s = .d (.bool true) } := by
    refine ds_for (ds := rangeD 0 4) (it_rangeN (n := 4) (er_int 4) (by decide)) (fun i r => ∃ x2 x3 x4 x5 x6 x7 x8 x9 x10 x11 x12, r = [none, some (.bag b), x2, x3, x4, x5, x6, x7, x8, x9, x10, x11, x12]) ⟨none, none, none, none, none, none, none, none, none, none, none, rfl⟩ (fun i d r' hd ⟨x2, x3, x4, x5, x6, x7, x8, x9, x10, x11, x12, er⟩ => ?_) fun r' _ => ds_ret (er_bl true) fun s e => e
    subst er
    obtain ⟨rfl, hi⟩ := range_at hd
    refine ⟨_, _, gt_nameD, ds_setX (P := fun z => ∃ n : Nat, z = .d (natD n) ∧ 1 ≤ n ∧ n ≤ 8) (er_opX (P1 := fun z => z = .d (.int 1)) (er_int 1) (er_draw (lim := 8) rfl (er_int 8) (by decide) (by decide)) (fun s e => by rw [e] <;> rfl) fun s1 s2 e1 ⟨d, e2, hd⟩ => by
      subst e1 e2
      intro S H v w hs hv hw Q q
      refine rx_add S H v w hs hv hw Q fun v s S' H' e => q v s S' H' ⟨1 + d, ?_, by omega, by omega⟩
      rw [e]
      show Sh.d (.int (1 + (d : Int))) = Sh.d (.int ((1 + d : Nat) : Int))
      rw [Int.natCast_add] <;> rfl) (fun s ⟨x, e, _⟩ => by rw [e]; exact ⟨rfl, fun _ z => nomatch z⟩) fun s ⟨n, e, n1, n8⟩ => ?_⟩
    subst e
    refine ds_setX (P := fun z => ∃ fc : Fc, z = .d fc.d ∧ fc.n = n ∧ FcOk fc ∧ NoClash fc) (er_call1 (b, n) (ea_cons (er_var rfl rfl) (ea_cons (er_var rfl rfl) ea_nil)) ⟨n1, n8⟩ (fun s e => e) (.inr rfl)) (fun s ⟨x, e, _⟩ => by rw [e]; exact ⟨rfl, fun _ z => nomatch z⟩) fun s ⟨fc, e, hn, ho, hno⟩ => ?_
    subst e hn
    refine ds_setX (P := fun z => ∃ M, z = .tl (M.map natD) ∧ IsMk fc.n fc.es M) (er_call1 fc (ea_cons (er_var rfl rfl) ea_nil) ho fun s e => e) (fun s ⟨x, e, _⟩ => by rw [e]; exact ⟨rfl, fun _ z => nomatch z⟩) fun s ⟨M, e, hM⟩ => ?_
    subst e
    refine ds_setX (P := fun z => ∃ R, z = .tl (R.map rowD) ∧ IsRows fc.es (mk M) R ∧ R.length ≤ 100) (er_call1 (fc, M) (ea_cons (er_var rfl rfl) (ea_cons (er_varL rfl) ea_nil)) ⟨ho, hM⟩ fun s e => e) (fun s ⟨x, e, _⟩ => by rw [e]; exact ⟨rfl, fun _ z => nomatch z⟩) fun s ⟨R, e, hR, hRl⟩ => ?_
    subst e
    have on : Once fc M R := ⟨ho, hno, ⟨hM, hR⟩, hRl⟩
    have hk := on.kn
    refine ds_last (ds_for (ds := rangeD 0 6) (it_rangeN (n := 6) (er_int 6) (by decide)) (fun j r => ∃ x7 x8 x9 x10 x11 x12, r = lRho b fc M R (some (.d (natD i))) x7 x8 x9 x10 x11 x12) ⟨_, _, _, _, _, _, rfl⟩ (fun j d r' hd ⟨y7, y8, y9, y10, y11, y12, er⟩ => ?_) fun r' ⟨y7, y8, y9, y10, y11, y12, er⟩ => ds_next (by rw [er]; exact ⟨_, _, _, _, _, _, _, _, _, _, _, rfl⟩))
    subst er
    obtain ⟨rfl, hj⟩ := range_at hd
    have frm : ∀ {x8 x9 x10 x11 x12 : Option Sh}, EvX K C (some b) (tCall (PLFormula K C 4) [] L2.E0 (tCons (tVar 1) (tCons (tVar 3) (tCons (tCall (PLDraw K C) [] L2.E0 (tCons (tVar 1) (tCons (tC (.int 4)) tNil))) tNil)))) (lRho b fc M R (some (.d (natD i))) (some (.d (natD j))) x8 x9 x10 x11 x12) (fun s => ∃ f : F, s = .d f.d ∧ f.lt fc.n = true ∧ f.dep ≤ 3) := fun {x8 x9 x10 x11 x12} =>
      er_call (PA := fun ss => ∃ d, ss = [.bag b, .d (natD fc.n), .d (natD d)] ∧ d < 4) (ea_consX (P1 := fun z => z = .bag b) (P2 := fun _ ss => ∃ d, ss = [.d (natD fc.n), .d (natD d)] ∧ d < 4) (er_var rfl rfl) (fun s e => by rw [e] <;> rfl) (fun _ _ => ea_consX (P1 := fun z => z = .d (natD fc.n)) (P2 := fun _ ss => ∃ d, ss = [.d (natD d)] ∧ d < 4) (er_var rfl rfl) (fun s e => by rw [e] <;> rfl) (fun _ _ => ea_consX (P2 := fun _ ss => ss = []) (er_draw (lim := 4) rfl (er_int 4) (by decide) (by decide)) (fun s ⟨d, e, _⟩ => by rw [e] <;> rfl) (fun _ _ => ea_nil) fun s ss ⟨d, e, hd⟩ e2 => ⟨d, by rw [e, e2], hd⟩) fun s ss e ⟨d, e2, hd⟩ => ⟨d, by rw [e, e2], hd⟩) fun s ss e ⟨d, e2, hd⟩ => ⟨d, by rw [e, e2], hd⟩) fun ss ⟨d, e, hd⟩ => ⟨(b, fc.n, d), e, ⟨ho.n1, ho.n8, hd⟩, .inr rfl, fun s ⟨f, e, h1, h2⟩ => ⟨f, e, h1, by have h2 : f.dep ≤ d := h2; omega⟩⟩
    refine ⟨_, _, gt_nameD, ds_setX frm (fun s ⟨x, e, _⟩ => by rw [e]; exact ⟨rfl, fun _ z => nomatch z⟩) fun s ⟨f, e, f1, f2⟩ => ?_⟩
    subst e
    have hf : FOk fc.n f := ⟨f1, sz_3 f2⟩
    have near : EvX K C (some b) (tCall (PLNear K C 4) [] L2.E0 (tCons (tVar 1) (tCons (tVar 8) (tCons (tVar 3) tNil)))) (lRho b fc M R (some (.d (natD i))) (some (.d (natD j))) (some (.d f.d)) y9 y10 y11 y12) (fun z => ∃ x, z = .d x ∧ ∃ g : F, x = g.d ∧ g.lt fc.n = true ∧ g.dep ≤ 5) := by
      have n0 : EvX K C (some b) (tCall (PLNear K C 4) [] L2.E0 (tCons (tVar 1) (tCons (tVar 8) (tCons (tVar 3) tNil)))) (lRho b fc M R (some (.d (natD i))) (some (.d (natD j))) (some (.d f.d)) y9 y10 y11 y12) (fun s => ∃ g : F, s = .d g.d ∧ g.lt fc.n = true ∧ g.dep ≤ f.dep + 2) :=
        er_call1 (b, f, fc.n) (ea_cons (er_var rfl rfl) (ea_cons (er_var rfl rfl) (ea_cons (er_var rfl rfl) ea_nil))) ⟨ho.n1, ho.n8, f1, show f.dep < 4 by omega⟩ (fun s e => e) (.inr rfl)
      exact n0.imp fun s ⟨g, e, h1, h2⟩ => ⟨_, e, g, rfl, h1, by omega⟩
    have frm3 : EvX K C (some b) (tCall (PLFormula K C 4) [] L2.E0 (tCons (tVar 1) (tCons (tVar 3) (tCons (tC (.int 3)) tNil)))) (lRho b fc M R (some (.d (natD i))) (some (.d (natD j))) (some (.d f.d)) y9 y10 y11 y12) (fun z => ∃ x, z = .d x ∧ ∃ g : F, x = g.d ∧ g.lt fc.n = true ∧ g.dep ≤ 5) := by
      have n0 : EvX K C (some b) (tCall (PLFormula K C 4) [] L2.E0 (tCons (tVar 1) (tCons (tVar 3) (tCons (tC (.int 3)) tNil)))) (lRho b fc M R (some (.d (natD i))) (some (.d (natD j))) (some (.d f.d)) y9 y10 y11 y12) (fun s => ∃ g : F, s = .d g.d ∧ g.lt fc.n = true ∧ g.dep ≤ 3) :=
        er_call1 (b, fc.n, 3) (ea_cons (er_var rfl rfl) (ea_cons (er_var rfl rfl) (ea_cons (er_int 3) ea_nil))) ⟨ho.n1, ho.n8, show 3 < 4 by decide⟩ (fun s e => e) (.inr rfl)
      exact n0.imp fun s ⟨g, e, h1, h2⟩ => ⟨_, e, g, rfl, h1, by omega⟩
    have pln : EvX K C (some b) (tCall (PLPlain K C 8) [] L2.E0 (tCons (tVar 5) (tCons (tVar 6) (tCons (tVar 8) tNil)))) (lRho b fc M R (some (.d (natD i))) (some (.d (natD j))) (some (.d f.d)) y9 y10 y11 y12) (fun z => ∃ x, z = .d x ∧ ∃ g : F, x = g.d ∧ g.lt fc.n = true ∧ g.dep ≤ 5) := by
      have n0 : EvX K C (some b) (tCall (PLPlain K C 8) [] L2.E0 (tCons (tVar 5) (tCons (tVar 6) (tCons (tVar 8) tNil)))) (lRho b fc M R (some (.d (natD i))) (some (.d (natD j))) (some (.d f.d)) y9 y10 y11 y12) (fun s => s = .d (lplain (lkn M R) f).d) :=
        er_call1 (M, R, f) (ea_cons (er_varL rfl) (ea_cons (er_varL rfl) (ea_cons (er_var rfl rfl) ea_nil))) ⟨by rw [hM.len]; exact f1, show f.dep < 8 by omega, show f.dep ≤ 40 by omega⟩ fun s e => e
      exact n0.imp fun s e => ⟨_, e, _, rfl, (lplain_ok hk hf).1, by have := lplain_dep (lkn M R) f; omega⟩
    refine ds_setX (P := fun z => ∃ xs, z = .tl xs ∧ xs.length = 4 ∧ ∀ x ∈ xs, ∃ g : F, x = g.d ∧ g.lt fc.n = true ∧ g.dep ≤ 5) (er_own (eo_lst (R := fun xs => xs.length = 4 ∧ ∀ x ∈ xs, ∃ g : F, x = g.d ∧ g.lt fc.n = true ∧ g.dep ≤ 5) (fun S0 H0 σ S H st Q q => ea_all near (ea_all near (ea_all frm3 (ea_all pln ea_nilX))) S0 H0 σ S H st Q fun vs ss S' H' ⟨xs, e, h1, h2⟩ => q vs ss S' H' ⟨xs, e, ⟨h1, h2⟩, by omega⟩))) (fun s ⟨x, e, _⟩ => by rw [e]; exact ⟨rfl, fun _ z => nomatch z⟩) fun s ⟨xs, e, h4, hA⟩ => ?_
    subst e
    refine ds_setX (P := fun z => ∃ g : F, z = .d g.d ∧ g.lt fc.n = true ∧ g.dep ≤ 5) ((er_pick1 (i := 1) (xs := xs) rfl (er_varL (i := 9) rfl) (fun z => by rw [z] at h4; cases h4) (by omega)).imp fun s ⟨x, e, hx⟩ => by
      obtain ⟨g, eg, h1, h2⟩ := hA x hx
      exact ⟨g, by rw [e, eg], h1, h2⟩) (fun s ⟨x, e, _⟩ => by rw [e]; exact ⟨rfl, fun _ z => nomatch z⟩) fun s ⟨g, e, g1, g2⟩ => ?_
    subst e
    refine ds_if1 (et_val (er_op (er_call1 (P := fun z => z = .d (natD g.sz)) g (ea_cons (er_var rfl rfl) ea_nil) (show g.dep < 8 by omega) fun s e => e) (er_int 15) rx_le)) (fun e => ?_) fun _ => ds_next ⟨_, _, _, _, _, _, rfl⟩
    have e := of_decide_eq_true e
    exact ds_checks on hf ⟨g1, by omega⟩ fun x11 x12 => ⟨_, _, _, _, _, _, rfl⟩
  exact main _ _ _ _ _ _ st (fun _ _ _ _ z => z.elim) (fun v s S' H2 e _ hv => by
    subst e
    have hv' : Dp K S' v (.bool true) := hv
    cases hv'
    rfl) (fun _ _ _ _ z => z.elim) fun _ _ _ _ z => z.elim
end
end RD

end
section
set_option linter.all false
set_option maxRecDepth 100000
set_option maxHeartbeats 4000000
/-! B12: the end: what the top has written, the chain of calls, the law at the caller's own place. -/
namespace RD
open PySem PySem.Spec PyProof.Rows L2
/-- a def of the top, by the written part alone -/
structure DfK (K : PySem.W.Frag) (x : Str) (st : Stmt) : Prop where
  ex : ∃ (f : Addr) (fd : FuncData), L2.Fun K x x st f fd ∧ PySem.W.nsIn K mainGlobals x = some (some (.ref f))
theorem dfk_mk {K : PySem.W.Frag} {x : Str} {st : Stmt} {f : Addr} {oc : Value} {od an : Option Addr} {osl : Array (Option Value)} {kV doc pm cdv ct : Value} (a : PySem.W.nsIn K mainGlobals x = some (some (.ref f)))
    (l : K.lookup f = some ⟨oc, od, .func (PySem.W.fnOf x x (defArgs st) (defBody st) (defScope st) .none kV doc pm an cdv ct), osl⟩) (c : PySem.W.codeIn K cdv x = true) (k : PySem.W.keepIn K (.ref f) = true) : DfK K x st := ⟨⟨f, _, fun_mk l c k, a⟩⟩
/-- a method of the class, by the written part alone -/
structure DmK (K : PySem.W.Frag) (C : Addr) (m qual : Str) (st : Stmt) : Prop where
  ex : ∃ (f : Addr) (fd : FuncData), Meth K C m f ∧ L2.Fun K m qual st f fd
theorem dmk_mk {K : PySem.W.Frag} {C : Addr} {m qual : Str} {st : Stmt} {f : Addr} {oc : Value} {od an : Option Addr} {osl : Array (Option Value)} {kV doc pm cdv ct : Value} (a : PySem.W.findIn K (.ref C) m = some (some (.ref f))) (i : PySem.W.isFn K (.ref f) = true)
    (l : K.lookup f = some ⟨oc, od, .func (PySem.W.fnOf m qual (defArgs st) (defBody st) (defScope st) .none kV doc pm an cdv ct), osl⟩) (c : PySem.W.codeIn K cdv qual = true) (k : PySem.W.keepIn K (.ref f) = true) : DmK K C m qual st := ⟨⟨f, _, ⟨a, i, k⟩, fun_mk l c k⟩⟩
section
variable {K : PySem.W.Frag} {h : Heap} {mg : Str → Option Value} {C : Addr}
theorem df_of (X : K.In h) (G : h.Ns mainGlobals mg) {x : Str} {st : Stmt} {ps : List Str} (d : DfK K x st)
    (b : ∀ (kV doc pm : Value) (an : Option Addr) (cdv ct : Value) (us : List Value), us.length = ps.length → bindArgs (PySem.W.fnOf x x (defArgs st) (defBody st) (defScope st) .none kV doc pm an cdv ct) ⟨us, []⟩ = pure (ps.zip us)) : Df K mg x st ps := by
  obtain ⟨f, fd, F, a⟩ := d.ex
  exact ⟨f, fd, F, PySem.W.mg_of X G a, F.binds b⟩
theorem dm_of (cl : Cls K C) {m qual : Str} {st : Stmt} {ps : List Str} (d : DmK K C m qual st)
    (b : ∀ (kV doc pm : Value) (an : Option Addr) (cdv ct : Value) (us : List Value), us.length = ps.length → bindArgs (PySem.W.fnOf m qual (defArgs st) (defBody st) (defScope st) .none kV doc pm an cdv ct) ⟨us, []⟩ = pure (ps.zip us)) : Dm K C m qual st ps := by
  obtain ⟨f, fd, M, F⟩ := d.ex
  exact ⟨f, fd, cl, M, F, F.binds b⟩
end
/-- all of the text -/
structure Al (K : PySem.W.Frag) (mg : Str → Option Value) (C : Addr) : Prop where
  dIsName : Df K mg "is_name" sIsName ["formula"]
  dIsInteger : Df K mg "is_integer" sIsInteger ["value", "low", "high"]
  dIsTuple : Df K mg "is_tuple" sIsTuple ["value", "many"]
  dIsWord : Df K mg "is_word" sIsWord ["value", "words"]
  dIsMade : Df K mg "is_made" sIsMade ["formula", "word"]
  dOtherRuleTold : Df K mg "other_rule_told" sOtherRuleTold ["formula"]
  dRuleTold : Df K mg "rule_told" sRuleTold ["formula"]
  dSize : Df K mg "size" sSize ["formula"]
  dPartError : Df K mg "part_error" sPartError ["names", "value"]
  dFormulaError : Df K mg "formula_error" sFormulaError ["names", "value"]
  dAreOne : Df K mg "are_one" sAreOne ["closing", "pair"]
  dTornBy : Df K mg "torn_by" sTornBy ["facts", "closing"]
  dClash : Df K mg "clash" sClash ["facts"]
  dClosed : Df K mg "closed" sClosed ["facts"]
  dEntryTold : Df K mg "entry_told" sEntryTold ["closing", "formula"]
  dShorter : Df K mg "shorter" sShorter ["closing", "formula"]
  dFirstStep : Df K mg "first_step" sFirstStep ["closing", "formula"]
  dSteps : Df K mg "steps" sSteps ["closing", "formula"]
  dSame : Df K mg "same" sSame ["facts", "one", "other"]
  dRoad : Df K mg "road" sRoad ["facts", "one", "other"]
  dIsMove : Df K mg "is_move" sIsMove ["closing", "one", "other"]
  dIsStep : Df K mg "is_step" sIsStep ["closing", "one", "other"]
  dIsRoad : Df K mg "is_road" sIsRoad ["facts", "one", "other", "value"]
  dClosingOf : Df K mg "closing_of" sClosingOf ["facts"]
  dLCount : Df K mg "_law_count" sLCount ["_law_value"]
  dLPartWord : Df K mg "_law_part_word" sLPartWord ["_law_names", "_law_value"]
  dLFormulaWord : Df K mg "_law_formula_word" sLFormulaWord ["_law_names", "_law_value"]
  dLRules : Df K mg "_law_rules" sLRules ["_law_word", "_law_one", "_law_other"]
  dLMove : Df K mg "_law_move" sLMove ["_law_marks_here", "_law_rows_here", "_law_one", "_law_other"]
  dLIsStep : Df K mg "_law_is_step" sLIsStep ["_law_marks_here", "_law_rows_here", "_law_one", "_law_other"]
  dLIsRoad : Df K mg "_law_is_road" sLIsRoad ["_law_facts_here", "_law_marks_here", "_law_rows_here", "_law_one", "_law_other", "_law_value"]
  dLPlain : Df K mg "_law_plain" sLPlain ["_law_marks_here", "_law_rows_here", "_law_formula_here"]
  dLRows : Df K mg "_law_rows" sLRows ["_law_facts_here", "_law_marks_here"]
  dLClose : Df K mg "_law_close" sLClose ["_law_marks_here", "_law_rows_here"]
  dLMarks : Df K mg "_law_marks" sLMarks ["_law_facts_here", "_law_numbers"]
  dLAllMarks : Df K mg "_law_all_marks" sLAllMarks ["_law_facts_here"]
  dLLots : Df K mg "_law_lots" sLLots ["_law_many"]
  dLClash : Df K mg "_law_clash" sLClash ["_law_facts_here"]
  dLDraw : Df K mg "_law_draw" sLDraw ["_law_bag_here", "_law_limit"]
  dLPick : Df K mg "_law_pick" sLPick ["_law_bag_here", "_law_items"]
  dLDivisor : Df K mg "_law_divisor" sLDivisor ["_law_one", "_law_other"]
  dLTurned : Df K mg "_law_turned" sLTurned ["_law_bag_here", "_law_many"]
  dLThings : Df K mg "_law_things" sLThings ["_law_bag_here", "_law_many", "_law_size"]
  dLFormula : Df K mg "_law_formula" sLFormula ["_law_bag_here", "_law_names", "_law_deep"]
  dLNear : Df K mg "_law_near" sLNear ["_law_bag_here", "_law_formula_here", "_law_names"]
  dLTurnOver : Df K mg "_law_turn_over" sLTurnOver ["_law_bag_here", "_law_rows_here", "_law_size"]
  dLTable : Df K mg "_law_table" sLTable ["_law_bag_here", "_law_size"]
  dLFacts : Df K mg "_law_facts" sLFacts ["_law_bag_here", "_law_names"]
  dLGoodFacts : Df K mg "_law_good_facts" sLGoodFacts ["_law_bag_here", "_law_names"]
  dLBag : Df K mg "_law_bag" sLBag ["_law_script"]
  dClosingRoot : Dm K C "root" "Closing.root" sClosingRoot ["self", "thing"]
  dClosingTold : Dm K C "told" "Closing.told" sClosingTold ["self", "places", "one", "other"]
  dClosingJoin : Dm K C "join" "Closing.join" sClosingJoin ["self", "one", "other"]
  dClosingRooted : Dm K C "rooted" "Closing.rooted" sClosingRooted ["self"]
  dClosingIsJoined : Dm K C "is_joined" "Closing.is_joined" sClosingIsJoined ["self", "places"]
  dClosingSettle : Dm K C "settle" "Closing.settle" sClosingSettle ["self"]
/-- all of the text, by the written part alone -/
structure AlK (K : PySem.W.Frag) (C : Addr) : Prop where
  kIsName : DfK K "is_name" sIsName
  kIsInteger : DfK K "is_integer" sIsInteger
  kIsTuple : DfK K "is_tuple" sIsTuple
  kIsWord : DfK K "is_word" sIsWord
  kIsMade : DfK K "is_made" sIsMade
  kOtherRuleTold : DfK K "other_rule_told" sOtherRuleTold
  kRuleTold : DfK K "rule_told" sRuleTold
  kSize : DfK K "size" sSize
  kPartError : DfK K "part_error" sPartError
  kFormulaError : DfK K "formula_error" sFormulaError
  kAreOne : DfK K "are_one" sAreOne
  kTornBy : DfK K "torn_by" sTornBy
  kClash : DfK K "clash" sClash
  kClosed : DfK K "closed" sClosed
  kEntryTold : DfK K "entry_told" sEntryTold
  kShorter : DfK K "shorter" sShorter
  kFirstStep : DfK K "first_step" sFirstStep
  kSteps : DfK K "steps" sSteps
  kSame : DfK K "same" sSame
  kRoad : DfK K "road" sRoad
  kIsMove : DfK K "is_move" sIsMove
  kIsStep : DfK K "is_step" sIsStep
  kIsRoad : DfK K "is_road" sIsRoad
  kClosingOf : DfK K "closing_of" sClosingOf
  kLCount : DfK K "_law_count" sLCount
  kLPartWord : DfK K "_law_part_word" sLPartWord
  kLFormulaWord : DfK K "_law_formula_word" sLFormulaWord
  kLRules : DfK K "_law_rules" sLRules
  kLMove : DfK K "_law_move" sLMove
  kLIsStep : DfK K "_law_is_step" sLIsStep
  kLIsRoad : DfK K "_law_is_road" sLIsRoad
  kLPlain : DfK K "_law_plain" sLPlain
  kLRows : DfK K "_law_rows" sLRows
  kLClose : DfK K "_law_close" sLClose
  kLMarks : DfK K "_law_marks" sLMarks
  kLAllMarks : DfK K "_law_all_marks" sLAllMarks
  kLLots : DfK K "_law_lots" sLLots
  kLClash : DfK K "_law_clash" sLClash
  kLDraw : DfK K "_law_draw" sLDraw
  kLPick : DfK K "_law_pick" sLPick
  kLDivisor : DfK K "_law_divisor" sLDivisor
  kLTurned : DfK K "_law_turned" sLTurned
  kLThings : DfK K "_law_things" sLThings
  kLFormula : DfK K "_law_formula" sLFormula
  kLNear : DfK K "_law_near" sLNear
  kLTurnOver : DfK K "_law_turn_over" sLTurnOver
  kLTable : DfK K "_law_table" sLTable
  kLFacts : DfK K "_law_facts" sLFacts
  kLGoodFacts : DfK K "_law_good_facts" sLGoodFacts
  kLBag : DfK K "_law_bag" sLBag
  kClosingRoot : DmK K C "root" "Closing.root" sClosingRoot
  kClosingTold : DmK K C "told" "Closing.told" sClosingTold
  kClosingJoin : DmK K C "join" "Closing.join" sClosingJoin
  kClosingRooted : DmK K C "rooted" "Closing.rooted" sClosingRooted
  kClosingIsJoined : DmK K C "is_joined" "Closing.is_joined" sClosingIsJoined
  kClosingSettle : DmK K C "settle" "Closing.settle" sClosingSettle
theorem al_of {K : PySem.W.Frag} {h : Heap} {mg : Str → Option Value} {C : Addr} (X : K.In h) (G : h.Ns mainGlobals mg) (cl : Cls K C) (D : AlK K C) : Al K mg C where
  dIsName := df_of X G D.kIsName (fun _ _ _ _ _ _ us hl => match us, hl with | [_], _ => rfl)
  dIsInteger := df_of X G D.kIsInteger (fun _ _ _ _ _ _ us hl => match us, hl with | [_, _, _], _ => rfl)
  dIsTuple := df_of X G D.kIsTuple (fun _ _ _ _ _ _ us hl => match us, hl with | [_, _], _ => rfl)
  dIsWord := df_of X G D.kIsWord (fun _ _ _ _ _ _ us hl => match us, hl with | [_, _], _ => rfl)
  dIsMade := df_of X G D.kIsMade (fun _ _ _ _ _ _ us hl => match us, hl with | [_, _], _ => rfl)
  dOtherRuleTold := df_of X G D.kOtherRuleTold (fun _ _ _ _ _ _ us hl => match us, hl with | [_], _ => rfl)
  dRuleTold := df_of X G D.kRuleTold (fun _ _ _ _ _ _ us hl => match us, hl with | [_], _ => rfl)
  dSize := df_of X G D.kSize (fun _ _ _ _ _ _ us hl => match us, hl with | [_], _ => rfl)
  dPartError := df_of X G D.kPartError (fun _ _ _ _ _ _ us hl => match us, hl with | [_, _], _ => rfl)
  dFormulaError := df_of X G D.kFormulaError (fun _ _ _ _ _ _ us hl => match us, hl with | [_, _], _ => rfl)
  dAreOne := df_of X G D.kAreOne (fun _ _ _ _ _ _ us hl => match us, hl with | [_, _], _ => rfl)
  dTornBy := df_of X G D.kTornBy (fun _ _ _ _ _ _ us hl => match us, hl with | [_, _], _ => rfl)
  dClash := df_of X G D.kClash (fun _ _ _ _ _ _ us hl => match us, hl with | [_], _ => rfl)
  dClosed := df_of X G D.kClosed (fun _ _ _ _ _ _ us hl => match us, hl with | [_], _ => rfl)
  dEntryTold := df_of X G D.kEntryTold (fun _ _ _ _ _ _ us hl => match us, hl with | [_, _], _ => rfl)
  dShorter := df_of X G D.kShorter (fun _ _ _ _ _ _ us hl => match us, hl with | [_, _], _ => rfl)
  dFirstStep := df_of X G D.kFirstStep (fun _ _ _ _ _ _ us hl => match us, hl with | [_, _], _ => rfl)
  dSteps := df_of X G D.kSteps (fun _ _ _ _ _ _ us hl => match us, hl with | [_, _], _ => rfl)
  dSame := df_of X G D.kSame (fun _ _ _ _ _ _ us hl => match us, hl with | [_, _, _], _ => rfl)
  dRoad := df_of X G D.kRoad (fun _ _ _ _ _ _ us hl => match us, hl with | [_, _, _], _ => rfl)
  dIsMove := df_of X G D.kIsMove (fun _ _ _ _ _ _ us hl => match us, hl with | [_, _, _], _ => rfl)
  dIsStep := df_of X G D.kIsStep (fun _ _ _ _ _ _ us hl => match us, hl with | [_, _, _], _ => rfl)
  dIsRoad := df_of X G D.kIsRoad (fun _ _ _ _ _ _ us hl => match us, hl with | [_, _, _, _], _ => rfl)
  dClosingOf := df_of X G D.kClosingOf (fun _ _ _ _ _ _ us hl => match us, hl with | [_], _ => rfl)
  dLCount := df_of X G D.kLCount (fun _ _ _ _ _ _ us hl => match us, hl with | [_], _ => rfl)
  dLPartWord := df_of X G D.kLPartWord (fun _ _ _ _ _ _ us hl => match us, hl with | [_, _], _ => rfl)
  dLFormulaWord := df_of X G D.kLFormulaWord (fun _ _ _ _ _ _ us hl => match us, hl with | [_, _], _ => rfl)
  dLRules := df_of X G D.kLRules (fun _ _ _ _ _ _ us hl => match us, hl with | [_, _, _], _ => rfl)
  dLMove := df_of X G D.kLMove (fun _ _ _ _ _ _ us hl => match us, hl with | [_, _, _, _], _ => rfl)
  dLIsStep := df_of X G D.kLIsStep (fun _ _ _ _ _ _ us hl => match us, hl with | [_, _, _, _], _ => rfl)
  dLIsRoad := df_of X G D.kLIsRoad (fun _ _ _ _ _ _ us hl => match us, hl with | [_, _, _, _, _, _], _ => rfl)
  dLPlain := df_of X G D.kLPlain (fun _ _ _ _ _ _ us hl => match us, hl with | [_, _, _], _ => rfl)
  dLRows := df_of X G D.kLRows (fun _ _ _ _ _ _ us hl => match us, hl with | [_, _], _ => rfl)
  dLClose := df_of X G D.kLClose (fun _ _ _ _ _ _ us hl => match us, hl with | [_, _], _ => rfl)
  dLMarks := df_of X G D.kLMarks (fun _ _ _ _ _ _ us hl => match us, hl with | [_, _], _ => rfl)
  dLAllMarks := df_of X G D.kLAllMarks (fun _ _ _ _ _ _ us hl => match us, hl with | [_], _ => rfl)
  dLLots := df_of X G D.kLLots (fun _ _ _ _ _ _ us hl => match us, hl with | [_], _ => rfl)
  dLClash := df_of X G D.kLClash (fun _ _ _ _ _ _ us hl => match us, hl with | [_], _ => rfl)
  dLDraw := df_of X G D.kLDraw (fun _ _ _ _ _ _ us hl => match us, hl with | [_, _], _ => rfl)
  dLPick := df_of X G D.kLPick (fun _ _ _ _ _ _ us hl => match us, hl with | [_, _], _ => rfl)
  dLDivisor := df_of X G D.kLDivisor (fun _ _ _ _ _ _ us hl => match us, hl with | [_, _], _ => rfl)
  dLTurned := df_of X G D.kLTurned (fun _ _ _ _ _ _ us hl => match us, hl with | [_, _], _ => rfl)
  dLThings := df_of X G D.kLThings (fun _ _ _ _ _ _ us hl => match us, hl with | [_, _, _], _ => rfl)
  dLFormula := df_of X G D.kLFormula (fun _ _ _ _ _ _ us hl => match us, hl with | [_, _, _], _ => rfl)
  dLNear := df_of X G D.kLNear (fun _ _ _ _ _ _ us hl => match us, hl with | [_, _, _], _ => rfl)
  dLTurnOver := df_of X G D.kLTurnOver (fun _ _ _ _ _ _ us hl => match us, hl with | [_, _, _], _ => rfl)
  dLTable := df_of X G D.kLTable (fun _ _ _ _ _ _ us hl => match us, hl with | [_, _], _ => rfl)
  dLFacts := df_of X G D.kLFacts (fun _ _ _ _ _ _ us hl => match us, hl with | [_, _], _ => rfl)
  dLGoodFacts := df_of X G D.kLGoodFacts (fun _ _ _ _ _ _ us hl => match us, hl with | [_, _], _ => rfl)
  dLBag := df_of X G D.kLBag (fun _ _ _ _ _ _ us hl => match us, hl with | [_], _ => rfl)
  dClosingRoot := dm_of cl D.kClosingRoot (fun _ _ _ _ _ _ us hl => match us, hl with | [_, _], _ => rfl)
  dClosingTold := dm_of cl D.kClosingTold (fun _ _ _ _ _ _ us hl => match us, hl with | [_, _, _, _], _ => rfl)
  dClosingJoin := dm_of cl D.kClosingJoin (fun _ _ _ _ _ _ us hl => match us, hl with | [_, _, _], _ => rfl)
  dClosingRooted := dm_of cl D.kClosingRooted (fun _ _ _ _ _ _ us hl => match us, hl with | [_], _ => rfl)
  dClosingIsJoined := dm_of cl D.kClosingIsJoined (fun _ _ _ _ _ _ us hl => match us, hl with | [_, _], _ => rfl)
  dClosingSettle := dm_of cl D.kClosingSettle (fun _ _ _ _ _ _ us hl => match us, hl with | [_], _ => rfl)
section
variable {P : Program} {w : World} {K : PySem.W.Frag} {mg : Str → Option Value} {base : Heap} {C aW aP : Addr}
/-- the chain of calls, and the law's own call -/
theorem law_at (T : Bl K w mg C aW aP) (hK : KKeys K aP wdKeys) (D : Al K mg C) {fi : Addr} {fdi : FuncData} (Fi : L2.Fun K "__init__" "Closing.__init__" sClosingInit fi fdi) (hM : Mk K C fi) (hC : mg "Closing" = some (.ref C)) (hbi : Binds K fdi ["self", "many", "entries"] [])
    {f : Addr} {fd : FuncData} (F : L2.Fun K "law" "law" sLaw f fd) {s : Shared} {H : Hp} {a : Addr} {ns : List Int} (e0 : Env0 P w K mg base callerA [] s H) (hS : SqL K H a (ns.map V.int)) (hl : ns.length ≤ 100) :
    codeAny (model P w) callerA (.call (.ref f) ⟨[.ref a], []⟩) (CR L2.CX0 [] P w H s (fun v _ => v = .bl true) fun _ _ _ => False) s := by
  have cN := cl_IsName (P := P) (base := base) T D.dIsName
  have cI := cl_IsInteger (P := P) (base := base) T D.dIsInteger
  have cT := cl_IsTuple (P := P) (base := base) T D.dIsTuple
  have cW := cl_IsWord (P := P) (base := base) T D.dIsWord
  have cM := cl_IsMade T cN D.dIsMade
  have cV := cl_OtherRuleTold T cM D.dOtherRuleTold
  have cU := cl_RuleTold T cM D.dRuleTold
  have cFE := cl_FormulaError T (cl_PartError T cI cT cW D.dPartError 8) (cl_Size T cN D.dSize 8) D.dFormulaError
  have cR := cl_Root (P := P) (base := base) T D.dClosingRoot
  have cTo := cl_Told (P := P) (base := base) T D.dClosingTold
  have cA := cl_AreOne T cR D.dAreOne
  have cTB := cl_TornBy T cA D.dTornBy
  have cJ := cl_Join T cR D.dClosingJoin
  have cRo := cl_Rooted T cR D.dClosingRooted
  have cIJ := cl_IsJoined T cR cJ D.dClosingIsJoined
  have cSe := cl_Settle T hK cRo cIJ D.dClosingSettle
  have cIn := cl_Init T cSe Fi hM hC hbi
  have cCO := cl_ClosingOf T cIn D.dClosingOf
  have cCl := cl_Clash T cTB cCO (by omega) D.dClash
  have cCd := (cl_Closed T cCl cCO D.dClosed).mono (show 7 + 2 ≤ 14 by omega)
  have cET := cl_EntryTold T cN cR cTo D.dEntryTold
  have cSh := cl_Shorter T cN cR cET cU D.dShorter
  have cSt := cl_Steps T (cl_FirstStep T cN cSh D.dFirstStep 8) D.dSteps
  have cSame := cl_Same T cCd cSt (by omega) D.dSame
  have cRoad := cl_Road T cCd cSt (by omega) D.dRoad
  have cMv := cl_IsMove T cN cR cET cU cV D.dIsMove
  have cIsR := cl_IsRoad T cCd cFE (cl_IsStep T cN cMv D.dIsStep 8) (by omega) D.dIsRoad
  have cLR := cl_LRules (P := P) (base := base) T D.dLRules
  have cLFW := cl_LFormulaWord (P := P) (base := base) T (cl_LCount T D.dLCount 8) (cl_LPartWord T D.dLPartWord 8) D.dLFormulaWord
  have cLIR := cl_LIsRoad T cLFW (cl_LIsStep T (cl_LMove T cLR D.dLMove) D.dLIsStep 8) D.dLIsRoad
  have cLPl := cl_LPlain T cLR D.dLPlain 8
  have cLRw := cl_LRows (P := P) (base := base) T D.dLRows
  have cLC := cl_LClose (P := P) (base := base) T D.dLClose
  have cLAM := cl_LAllMarks T (cl_LMarks T cLC D.dLMarks) D.dLAllMarks
  have cLCl := cl_LClash T (cl_LMarksT T cLC D.dLMarks) cLAM (cl_LLots T D.dLLots) D.dLClash
  have cLD := cl_LDraw (P := P) (base := base) T D.dLDraw
  have cLP := cl_LPick T cLD D.dLPick
  have cLT := cl_LTable T cLD cLP (cl_LDivisor T D.dLDivisor) (cl_LTurned T cLD D.dLTurned) (cl_LTurnOver T cLD D.dLTurnOver) D.dLTable
  have cLF := cl_LFacts T cLD cLP cLT (cl_LThings T cLD D.dLThings) D.dLFacts
  have cLG := cl_LGoodFacts T cLCl cLF D.dLGoodFacts
  have cLB := cl_LBag (P := P) (base := base) T D.dLBag
  have cLCt := cl_LCount (P := P) (base := base) T D.dLCount 8
  have cLFo := cl_LFormula T cLD cLP D.dLFormula 4
  have cLNr := cl_LNear T cLD (cl_LFormula T cLD cLP D.dLFormula 3) D.dLNear 4
  obtain ⟨oc, od, kV, doc, pm, an, cdv, ct, osl, rfl, lk, hcd⟩ := F.ex
  have kin : K.In s.heap := e0.mod.kin.keeps fun b o e => (e0.bs b o e).1
  have nol : s.heap.NoLimit := e0.mod.nolimit.keeps fun b o e => (e0.bs b o e).1
  have room : Room 17 callerA := ⟨rfl, by decide, by decide⟩
  have rv : Vals [V.ref a] [Value.ref a] := .cons rfl .nil
  have bnd : BindsTo s (PySem.W.fnOf "law" "law" (defArgs sLaw) (defBody sLaw) (defScope sLaw) .none kV doc pm an cdv ct) ⟨[Value.ref a], []⟩ [("_law_script", Value.ref a)] := .of_eq rfl
  have kinds : ∀ y ∈ [(("_law_script" : Str), Value.ref a)], (defScope sLaw).names.lookup y.1 = some .local ∨ ((defScope sLaw).names.lookup y.1 = some .cell ∧ ((cellsFrom (s.heap.objs.size + 1) (defScope sLaw).names []).lookup y.1).isSome = true) := fun y hy => by
    rw [List.mem_singleton.mp hy]
    rcases scLaw.par "_law_script" (List.mem_singleton.mpr rfl) with q | q
    · exact .inl q
    · exact .inr ⟨q, PySem.W.cellsFrom_some _ _ _ (.inl q)⟩
  refine codeAny_call_function room.depth (kin _ _ lk) rfl scLaw.co scLaw.gen rfl (PySem.W.codeRec_of kin hcd) (bnd _ _ _ _ ?_)
  refine wpAny_newFunctionEnv_cells scLaw.kind kinds fun env he s1 x => ?_
  subst he
  refine ⟨nol.keeps x.toInCall.keep, codeAny_func ?_⟩
  have room2 : Room 16 (callerA.deeper (envOfC "law" (defScope sLaw) s.heap.objs.size f cdv)) := room.deeper _
  have read := (dvLaw (P := P) (base := base) (outer := []) (H := H) (E := fun _ _ _ => False) (s := s) (cdv := cdv) (f := f) (A := callerA) T cSame (by omega) cRoad (by omega) cIsR (by omega) cLB (by omega) cLD (by omega) cLP (by omega) cLFo (by omega) cLCt (by omega) cLAM (by omega) cLG (by omega) cLRw (by omega) cLIR (by omega) cLPl (by omega) cLNr (by omega) room2 rfl).nox
  have inv : Inv (cxOf L2.CX0 P w K mg base NLaw "law" (defScope sLaw) f cdv callerA [] s H (fun _ _ _ => False)) [] (L2.start NLaw [V.ref a]) H s1 := inv_start (ps := ["_law_script"]) scLaw room.hd e0 rfl rv x
  refine wpAny_mono (read.run [] s1 (L2.start NLaw [V.ref a]) H _ inv (law_run a ns H hS hl)) (fun fl s' hs => ?_) fun e s' hs => hs
  have out : ∀ {sg : L2.St} {H2 : Hp} {v : V} {u : Value}, Inv (cxOf L2.CX0 P w K mg base NLaw "law" (defScope sLaw) f cdv callerA [] s H (fun _ _ _ => False)) [] sg H2 s' → RelV v u → v = .bl true → CE [] P w H s (fun v _ => v = .bl true) u s' := fun {sg H2 v u} J r q =>
    ⟨v, H2, J.os, J.bare, J.base, J.hok, r, q⟩
  cases fl with
  | ret u =>
    obtain ⟨v, sg, H2, J, r, q⟩ := hs
    exact out J r q
  | next =>
    obtain ⟨sg, H2, J, q⟩ := hs
    exact out (v := V.non) (u := Value.none) J rfl q
  | brk =>
    obtain ⟨_, _, _, q⟩ := hs
    exact False.elim q
  | cont =>
    obtain ⟨_, _, _, q⟩ := hs
    exact False.elim q
end
end RD

end
section
set_option linter.all false
set_option maxRecDepth 100000
set_option maxHeartbeats 4000000
/-! B13: from the caller's heap to an abstract one, at the caller's own place. -/
namespace RD
open PySem PySem.Spec PyProof.Rows L2
theorem call_here {P : Program} {w : World} {K : PySem.W.Frag} {mg mb : Str → Option Value} {fa a : Addr} {sh : Shared} {us : List Value} {ns : List Int}
    (kin : K.In sh.heap) (gl : sh.heap.Ns mainGlobals mg) (bl : sh.heap.Ns builtinsNs mb) (bb : ∀ x : Str, x ≠ "__name__" → mb x = bootBuiltins x) (nl : sh.heap.NoLimit) (gn : sh.gens = #[])
    (ob : sh.heap.get? a = some { cls := .type "list", data := .seq us.toArray }) (it : IntsAre us ns) (ln : ns.length ≤ sizeLine)
    (F : ∀ (base : Heap) (H : Hp), Env0 P w K mg base callerA [] sh H → SqL K H a (ns.map V.int) → codeAny (model P w) callerA (.call (.ref fa) ⟨[.ref a], []⟩) (CR L2.CX0 [] P w H sh (fun v _ => v = .bl true) fun _ _ _ => False) sh) :
    codeAny (model P w) callerA (.call (.ref fa) ⟨[.ref a], []⟩) (fun r s2 => r = .ok (.ret (.bool true)) ∧ OldK sh.heap s2.heap ∧ s2.os = sh.os ∧ AllBare s2.gens) sh := by
  have vv := vals_ints it
  have vl := it.length
  have run : ∀ H : Hp, Only H → SqL K H a (ns.map V.int) → HOk P w H sh.heap → (∀ b, H b ≠ none → b = a) → (H a ≠ none → K.lookup a = none) →
      codeAny (model P w) callerA (.call (.ref fa) ⟨[.ref a], []⟩) (fun r s2 => r = .ok (.ret (.bool true)) ∧ OldK sh.heap s2.heap ∧ s2.os = sh.os ∧ AllBare s2.gens) sh := fun H on sq ok only out => by
    have hid : ∀ {b : Addr} {o : Obj}, sh.heap.get? b = some o → H b = none → (hidT sh.heap H).get? b = some o := fun z n => hidT_get z n
    have nodict : ∀ {b : Addr} {o : Obj} {es : Array DictEntry} {ep : Nat}, sh.heap.get? b = some o → o.data = .dict es ep → H b = none := fun {b o es ep} z d =>
      Classical.byContradiction fun n => by
        have z2 : b = a := only b n
        rw [z2, ob] at z
        cases z
        have d2 : Data.seq us.toArray _ = Data.dict es ep := d
        cases d2
    have spaces : ∀ {b : Addr} {m : Str → Option Value}, sh.heap.Ns b m → (hidT sh.heap H).Ns b m := fun ⟨o, es, ep, z, d, r⟩ => ⟨o, es, ep, hid z (nodict z d), d, r⟩
    have kin2 : K.In (hidT sh.heap H) := fun b o z => hid (kin b o z) (Classical.byContradiction fun n => by
      have z2 : b = a := only b n
      rw [z2] at z n
      rw [out n] at z
      cases z)
    obtain ⟨mc, l1, l2⟩ := nl
    have md : Mod K mg (hidT sh.heap H) := ⟨kin2, spaces gl, ⟨mb, spaces bl, bb⟩, ⟨mc, spaces l1, l2⟩⟩
    have en : Env0 P w K mg (hidT sh.heap H) callerA [] sh H := ⟨rfl, md, fun b o z => of_hidT z, Nat.le_of_eq (hidT_size _ _), trivial, fun b hb => absurd (show b ∈ ([] : List Addr) from hb) (by simp), ok, .of_eq gn⟩
    refine codeAny_mono (F _ H en sq) fun r s2 h => ?_
    match r, h with
    | .error e, h => exact False.elim h
    | .ok .next, h => exact False.elim h
    | .ok .brk, h => exact False.elim h
    | .ok .cont, h => exact False.elim h
    | .ok (.ret u), h =>
      obtain ⟨v, H2, os, bare, un, ok2, rv, q⟩ := h
      have q2 : v = .bl true := q
      subst q2
      obtain rfl : u = Value.bool true := rv
      refine ⟨rfl, OldK.of_keep fun b o z => ?_, os, bare⟩
      by_cases hb : H b = none
      · exact un.keep b o z hb (by intro y; exact absurd (show b ∈ ([] : List Addr) from y) (by simp)) (by simp)
      · rcases on b with y | ⟨o2, xs, y⟩
        · exact absurd y hb
        · obtain ⟨e1, _⟩ := ok b _ y
          obtain ⟨e2, _⟩ := ok2 b _ (un.frzs b o2 _ y)
          rw [z] at e1
          cases e1
          exact e2
  cases hk : K.lookup a with
  | some o =>
    have z := kin a o hk
    rw [ob] at z
    cases z
    exact run (fun _ => none) (fun _ => .inl rfl) (.inr ⟨_, us.toArray, _, hk, rfl, rfl, rfl, by rw [List.size_toArray, vl]; exact ln, by simpa using vv⟩) (fun b u z => nomatch (show (none : Option HO) = some u from z)) (fun b z => absurd rfl z) fun z => absurd rfl z
  | none =>
    refine run (fun b => if b = a then some (.frz { cls := .type "list", data := .seq us.toArray } (.lst (ns.map V.int))) else none) (fun b => ?_) (.inl (.inr ⟨{ cls := .type "list", data := .seq us.toArray }, if_pos rfl⟩)) (fun b u z => ?_) (fun b z => ?_) fun _ => hk
    all_goals by_cases hb : b = a
    · exact .inr ⟨_, _, if_pos hb⟩
    · exact .inl (if_neg hb)
    · have z2 := (if_pos hb).symm.trans z
      cases z2
      subst hb
      exact ⟨ob, by rw [List.length_map]; exact ln, us, _, vv, ob⟩
    · exact nomatch (if_neg hb).symm.trans z
    · exact hb
    · exact absurd (if_neg hb) z
theorem walk_here {l : PySem.W.OpenLaw} {q : Program} {loose : List Str} {XP : (Str → Option Value) → Heap → Prop} {YP : World → Heap → Prop} {d : DefRec} {K : Params → PySem.W.Frag} (hn : l.most = some 63) (hdf : d.params.defaults = [])
    (hY : ∀ (w : World) (h : Heap), YP w h → (K w.params).In h)
    (F : ∀ (w : World) (mg : Str → Option Value) (fa : Addr) (h : Heap), (K w.params).In h → h.Ns mainGlobals mg → mg d.name = some (.ref fa) →
      ∀ (sh : Shared) (a : Addr) (ns : List Int) (base : Heap) (H : Hp), ns.length ≤ 100 → Env0 l.prog w (K w.params) mg base callerA [] sh H → SqL (K w.params) H a (ns.map V.int) →
        codeAny (model l.prog w) callerA (.call (.ref fa) ⟨[.ref a], []⟩) (CR L2.CX0 [] l.prog w H sh (fun v _ => v = .bl true) fun _ _ _ => False) sh) :
    PySem.W.WalkO q loose XP YP l.row.toRowW d [] (fun f vs => PySem.call f vs) :=
  Att.attach_call hn hdf fun w s₀ sh mg mb fa o pm cd doc a vs ns G Y ho hd hcd hmg hobj hints hlen hg =>
    call_here (hY w _ Y) G.T.g G.T.b G.T.builtins G.T.nolimit hg hobj hints (Nat.le_trans hlen (by decide)) fun base H e0 sq => F w mg fa _ (hY w _ Y) G.T.g hmg sh a ns base H (by omega) e0 sq
/-! ### what the top has written -/
theorem sqt_of {K : PySem.W.Frag} {z : Addr} {od : Option Addr} {its : Array Value} {n : Nat} {sl : Array (Option Value)} {vs : List V} {us : List Value} (l : K.lookup z = some ⟨.type "tuple", od, .seq its n, sl⟩) (e : its.toList = us) (r : Vals vs us) (hl : us.length ≤ 100) (H : Hp) : SqT K H z vs := by
  refine .inr ⟨_, its, n, l, rfl, rfl, ?_, by rw [e]; exact r⟩
  rw [← Array.length_toList, e]
  exact Nat.le_trans hl (by decide)
theorem three {K : PySem.W.Frag} {z : Addr} {od : Option Addr} {its : Array Value} {n : Nat} {sl : Array (Option Value)} {i j k : Nat} {t1 t2 t3 : Tok} (l : K.lookup z = some ⟨.type "tuple", od, .seq its n, sl⟩) (e : its.toList = [.int (i : Int) t1, .int (j : Int) t2, .int (k : Int) t3]) :
    Dp K (fun _ => none) (.ref z) (.tuple [natD i, natD j, natD k]) :=
  .tup (sqt_of (vs := [.int i, .int j, .int k]) l e (.cons ⟨t1, rfl⟩ (.cons ⟨t2, rfl⟩ (.cons ⟨t3, rfl⟩ .nil))) (by show 3 ≤ 100; decide) _) (.cons (.int _) (.cons (.int _) (.cons (.int _) .nil)))
end RD

end
section
set_option linter.all false
set_option maxRecDepth 100000
set_option maxHeartbeats 4000000
/-! B14: the top's facts, collected. -/
namespace RD
open PySem PySem.Spec PyProof.Rows L2
theorem fin_mk {P : Program} {w : World} {K : PySem.W.Frag} {h : Heap} {mg : Str → Option Value} {fa C aW aP z1 z2 z3 fi fl : Addr} (X : K.In h) (G : h.Ns mainGlobals mg) (hfa : mg "law" = some (.ref fa))
    {oci kVi dci pmi cdi cti ocl kVl dcl pml cdl ctl : Value} {odi ani odl anl : Option Addr} {sli sll slW sl1 sl2 sl3 : Array (Option Value)} {odW od1 od2 od3 : Option Addr} {itW it1 it2 it3 : Array Value} {nW n1 n2 n3 nP : Nat} {es : Array DictEntry}
    {tr ts ta tb tc ua ub uc pa1 pa2 pa3 pb1 pb2 pb3 pc1 pc2 pc3 : Tok}
    (aC : PySem.W.nsIn K mainGlobals "Closing" = some (some (.ref C)))
    (pg : PySem.W.plainGet K C Str.empty = true) (hd : PySem.W.hasDictIn K C = true) (po : PySem.W.plainOver K C = true) (sa : PySem.W.findIn K (.ref C) "__setattr__" = some (some (.builtin "object.__setattr__"))) (mk : PySem.W.makesIn K C = true) (kc : PySem.W.keepIn K (.ref C) = true)
    (nE : PySem.W.findIn K (.ref C) "elder" = some none) (nR : PySem.W.findIn K (.ref C) "rows" = some none)
    (ai : PySem.W.findIn K (.ref C) "__init__" = some (some (.ref fi))) (ii : PySem.W.isFn K (.ref fi) = true)
    (li : K.lookup fi = some ⟨oci, odi, .func (PySem.W.fnOf "__init__" "Closing.__init__" (defArgs sClosingInit) (defBody sClosingInit) (defScope sClosingInit) .none kVi dci pmi ani cdi cti), sli⟩) (ci : PySem.W.codeIn K cdi "Closing.__init__" = true) (ki : PySem.W.keepIn K (.ref fi) = true)
    (al : PySem.W.nsIn K mainGlobals "law" = some (some (.ref fl)))
    (ll : K.lookup fl = some ⟨ocl, odl, .func (PySem.W.fnOf "law" "law" (defArgs sLaw) (defBody sLaw) (defScope sLaw) .none kVl dcl pml anl cdl ctl), sll⟩) (cl : PySem.W.codeIn K cdl "law" = true) (kl : PySem.W.keepIn K (.ref fl) = true)
    (gr : PySem.W.nsIn K mainGlobals "MAX_ROAD" = some (some (.int 40 tr))) (gs : PySem.W.nsIn K mainGlobals "MAX_SIZE" = some (some (.int 15 ts)))
    (gW : PySem.W.nsIn K mainGlobals "WORDS" = some (some (.ref aW))) (lW : K.lookup aW = some ⟨.type "tuple", odW, .seq itW nW, slW⟩) (eW : itW.toList = [.str "with" ta, .str "behind" tb, .str "ahead" tc])
    (gP : PySem.W.nsIn K mainGlobals "PLACES" = some (some (.ref aP))) (lP : K.lookup aP = some ⟨.type "dict", none, .dict es nP, #[]⟩) (kP : PySem.W.KeysLit w.params es.toList) (mP : (aP == sysModules) = false)
    (eP : es.toList.map (fun e => e.key) = [.str "with" ua, .str "behind" ub, .str "ahead" uc])
    (p1 : PySem.W.nsIn K aP "with" = some (some (.ref z1))) (l1 : K.lookup z1 = some ⟨.type "tuple", od1, .seq it1 n1, sl1⟩) (e1 : it1.toList = [.int ((0 : Nat) : Int) pa1, .int ((1 : Nat) : Int) pa2, .int ((2 : Nat) : Int) pa3])
    (p2 : PySem.W.nsIn K aP "behind" = some (some (.ref z2))) (l2 : K.lookup z2 = some ⟨.type "tuple", od2, .seq it2 n2, sl2⟩) (e2 : it2.toList = [.int ((0 : Nat) : Int) pb1, .int ((2 : Nat) : Int) pb2, .int ((1 : Nat) : Int) pb3])
    (p3 : PySem.W.nsIn K aP "ahead" = some (some (.ref z3))) (l3 : K.lookup z3 = some ⟨.type "tuple", od3, .seq it3 n3, sl3⟩) (e3 : it3.toList = [.int ((1 : Nat) : Int) pc1, .int ((2 : Nat) : Int) pc2, .int ((0 : Nat) : Int) pc3])
    (b_isinstance : PySem.W.nsIn K mainGlobals "isinstance" = some none)
    (b_int : PySem.W.nsIn K mainGlobals "int" = some none)
    (b_bool : PySem.W.nsIn K mainGlobals "bool" = some none)
    (b_tuple : PySem.W.nsIn K mainGlobals "tuple" = some none)
    (b_str : PySem.W.nsIn K mainGlobals "str" = some none)
    (b_list : PySem.W.nsIn K mainGlobals "list" = some none)
    (b_len : PySem.W.nsIn K mainGlobals "len" = some none)
    (b_range : PySem.W.nsIn K mainGlobals "range" = some none)
    (b_zip : PySem.W.nsIn K mainGlobals "zip" = some none)
    (b_enumerate : PySem.W.nsIn K mainGlobals "enumerate" = some none)
    (b_any : PySem.W.nsIn K mainGlobals "any" = some none)
    (b_all : PySem.W.nsIn K mainGlobals "all" = some none)
    (b_set : PySem.W.nsIn K mainGlobals "set" = some none)
    (b_sorted : PySem.W.nsIn K mainGlobals "sorted" = some none)
    (b_abs : PySem.W.nsIn K mainGlobals "abs" = some none)
    (b_min : PySem.W.nsIn K mainGlobals "min" = some none)
    (b_max : PySem.W.nsIn K mainGlobals "max" = some none)
    (b_repr : PySem.W.nsIn K mainGlobals "repr" = some none)
    (D : AlK K C) (sh : Shared) (a : Addr) (ns : List Int) (base : Heap) (H : Hp) (hl : ns.length ≤ 100) (e0 : Env0 P w K mg base callerA [] sh H) (sq : SqL K H a (ns.map V.int)) :
    codeAny (model P w) callerA (.call (.ref fa) ⟨[.ref a], []⟩) (CR L2.CX0 [] P w H sh (fun v _ => v = .bl true) fun _ _ _ => False) sh := by
  have q := hfa.symm.trans (PySem.W.mg_of X G al)
  cases q
  have cls : Cls K C := ⟨pg, hd, po, sa⟩
  have T : Bl K w mg C aW aP :=
    { cl := cls, nE := nE, nR := nR, isinstance_ := PySem.W.mg_none_of X G b_isinstance, int_ := PySem.W.mg_none_of X G b_int, bool_ := PySem.W.mg_none_of X G b_bool, tuple_ := PySem.W.mg_none_of X G b_tuple, str_ := PySem.W.mg_none_of X G b_str, list_ := PySem.W.mg_none_of X G b_list, len_ := PySem.W.mg_none_of X G b_len, range_ := PySem.W.mg_none_of X G b_range, zip_ := PySem.W.mg_none_of X G b_zip, enumerate_ := PySem.W.mg_none_of X G b_enumerate, any_ := PySem.W.mg_none_of X G b_any, all_ := PySem.W.mg_none_of X G b_all, set_ := PySem.W.mg_none_of X G b_set, sorted_ := PySem.W.mg_none_of X G b_sorted, abs_ := PySem.W.mg_none_of X G b_abs, min_ := PySem.W.mg_none_of X G b_min, max_ := PySem.W.mg_none_of X G b_max, repr_ := PySem.W.mg_none_of X G b_repr,
      gMAX_ROAD := ⟨_, PySem.W.mg_of X G gr, tr, rfl⟩, gMAX_SIZE := ⟨_, PySem.W.mg_of X G gs, ts, rfl⟩, gWORDS := ⟨_, PySem.W.mg_of X G gW, rfl⟩, gPLACES := ⟨_, PySem.W.mg_of X G gP, rfl⟩,
      words := sqt_of (vs := [.str "with", .str "behind", .str "ahead"]) lW eW (.cons ⟨ta, rfl⟩ (.cons ⟨tb, rfl⟩ (.cons ⟨tc, rfl⟩ .nil))) (by show 3 ≤ 100; decide) _,
      places := fun v => match v with
        | .wi => ⟨.ref z1, ⟨es, nP, .ref z1, lP, kP, p1, rfl⟩, three l1 e1⟩
        | .be => ⟨.ref z2, ⟨es, nP, .ref z2, lP, kP, p2, rfl⟩, three l2 e2⟩
        | .ah => ⟨.ref z3, ⟨es, nP, .ref z3, lP, kP, p3, rfl⟩, three l3 e3⟩ }
  have hK : KKeys K aP wdKeys := by
    have size : es.size = 3 := by
      have q := congrArg List.length eP
      rw [List.length_map, Array.length_toList] at q
      exact q
    refine ⟨es, nP, lP, mP, size, fun i k hi => ?_⟩
    have ent : ∀ {j : Nat} {u : Value}, (es.toList.map (fun e => e.key))[j]? = some u → ∃ en : DictEntry, es[j]? = some en ∧ en.key = u := fun {j u} q => by
      rw [List.getElem?_map, Array.getElem?_toList] at q
      cases z : es[j]? with
      | none =>
        rw [z] at q
        cases q
      | some en =>
        rw [z] at q
        exact ⟨en, rfl, Option.some.inj q⟩
    match i, hi with
    | 0, hi =>
      obtain ⟨en, q1, q2⟩ := ent (j := 0) (by rw [eP] <;> rfl)
      cases hi
      exact ⟨en, q1, ua, q2⟩
    | 1, hi =>
      obtain ⟨en, q1, q2⟩ := ent (j := 1) (by rw [eP] <;> rfl)
      cases hi
      exact ⟨en, q1, ub, q2⟩
    | 2, hi =>
      obtain ⟨en, q1, q2⟩ := ent (j := 2) (by rw [eP] <;> rfl)
      cases hi
      exact ⟨en, q1, uc, q2⟩
    | i + 3, hi => cases hi
  have Fi := fun_mk (st := sClosingInit) li ci ki
  have bi := Fi.binds (ps := ["self", "many", "entries"]) fun _ _ _ _ _ _ us hl => match us, hl with | [_, _, _], _ => rfl
  exact law_at T hK (al_of X G cls D) Fi ⟨mk, ai, ii, kc⟩ (PySem.W.mg_of X G aC) bi (fun_mk (st := sLaw) ll cl kl) e0 sq hl
end RD

end
section
set_option linter.all false
set_option maxRecDepth 100000
/-! B15: the end. -/
open PySem PySem.W PyProof.Rows
set_option maxHeartbeats 0
theorem PySem.Challenge.cw_solvedbothsides_k14_whole_roads_holds : PySem.Challenge.rw_solvedbothsides_k14_whole_roads.Holds := by
  w_on; o_law; k_head; (case hw => w_witness2)
  k_fill
  refine RD.walk_here (l := PySem.Challenge.rw_solvedbothsides_k14_whole_roads) rfl rfl (fun w h Y => PySem.W.kIn_of Y) ?F
  case F =>
    intro w mg fa h KX G hmg
    refine' RD.fin_mk KX G hmg ?aC ?pg ?hd ?po ?sa ?mk ?kc ?nE ?nR ?ai ?ii ?li ?ci ?ki ?al ?ll ?cl ?kl ?gr ?gs ?gW ?lW ?eW ?gP ?lP ?kP ?mP ?eP ?p1 ?l1 ?e1 ?p2 ?l2 ?e2 ?p3 ?l3 ?e3 ?b_isinstance ?b_int ?b_bool ?b_tuple ?b_str ?b_list ?b_len ?b_range ?b_zip ?b_enumerate ?b_any ?b_all ?b_set ?b_sorted ?b_abs ?b_min ?b_max ?b_repr ?D
    (case aC => k_is)
    (case pg => k_is)
    (case hd => k_is)
    (case po => k_is)
    (case sa => k_is)
    (case mk => k_is)
    (case kc => k_is)
    (case nE => k_is)
    (case nR => k_is)
    (case ai => k_is)
    (case ii => k_is)
    (case li => k_is)
    (case ci => k_is)
    (case ki => k_is)
    (case al => k_is)
    (case ll => k_is)
    (case cl => k_is)
    (case kl => k_is)
    (case gr => k_is)
    (case gs => k_is)
    (case gW => k_is)
    (case lW => k_is)
    (case eW => rfl)
    (case gP => k_is)
    (case lP => k_is)
    (case kP => exact ⟨⟨_, _, rfl, rfl⟩, ⟨_, _, rfl, rfl⟩, ⟨_, _, rfl, rfl⟩, trivial⟩)
    (case mP => decide)
    (case eP => rfl)
    (case p1 => k_is)
    (case l1 => k_is)
    (case e1 => rfl)
    (case p2 => k_is)
    (case l2 => k_is)
    (case e2 => rfl)
    (case p3 => k_is)
    (case l3 => k_is)
    (case e3 => rfl)
    (case b_isinstance => k_is)
    (case b_int => k_is)
    (case b_bool => k_is)
    (case b_tuple => k_is)
    (case b_str => k_is)
    (case b_list => k_is)
    (case b_len => k_is)
    (case b_range => k_is)
    (case b_zip => k_is)
    (case b_enumerate => k_is)
    (case b_any => k_is)
    (case b_all => k_is)
    (case b_set => k_is)
    (case b_sorted => k_is)
    (case b_abs => k_is)
    (case b_min => k_is)
    (case b_max => k_is)
    (case b_repr => k_is)
    case D =>
      refine' ⟨?kIsName, ?kIsInteger, ?kIsTuple, ?kIsWord, ?kIsMade, ?kOtherRuleTold, ?kRuleTold, ?kSize, ?kPartError, ?kFormulaError, ?kAreOne, ?kTornBy, ?kClash, ?kClosed, ?kEntryTold, ?kShorter, ?kFirstStep, ?kSteps, ?kSame, ?kRoad, ?kIsMove, ?kIsStep, ?kIsRoad, ?kClosingOf, ?kLCount, ?kLPartWord, ?kLFormulaWord, ?kLRules, ?kLMove, ?kLIsStep, ?kLIsRoad, ?kLPlain, ?kLRows, ?kLClose, ?kLMarks, ?kLAllMarks, ?kLLots, ?kLClash, ?kLDraw, ?kLPick, ?kLDivisor, ?kLTurned, ?kLThings, ?kLFormula, ?kLNear, ?kLTurnOver, ?kLTable, ?kLFacts, ?kLGoodFacts, ?kLBag, ?kClosingRoot, ?kClosingTold, ?kClosingJoin, ?kClosingRooted, ?kClosingIsJoined, ?kClosingSettle⟩
      (case kIsName => refine' RD.dfk_mk ?a ?l ?c ?k; (case a => k_is); (case l => k_is); (case c => k_is); (case k => k_is))
      (case kIsInteger => refine' RD.dfk_mk ?a ?l ?c ?k; (case a => k_is); (case l => k_is); (case c => k_is); (case k => k_is))
      (case kIsTuple => refine' RD.dfk_mk ?a ?l ?c ?k; (case a => k_is); (case l => k_is); (case c => k_is); (case k => k_is))
      (case kIsWord => refine' RD.dfk_mk ?a ?l ?c ?k; (case a => k_is); (case l => k_is); (case c => k_is); (case k => k_is))
      (case kIsMade => refine' RD.dfk_mk ?a ?l ?c ?k; (case a => k_is); (case l => k_is); (case c => k_is); (case k => k_is))
      (case kOtherRuleTold => refine' RD.dfk_mk ?a ?l ?c ?k; (case a => k_is); (case l => k_is); (case c => k_is); (case k => k_is))
      (case kRuleTold => refine' RD.dfk_mk ?a ?l ?c ?k; (case a => k_is); (case l => k_is); (case c => k_is); (case k => k_is))
      (case kSize => refine' RD.dfk_mk ?a ?l ?c ?k; (case a => k_is); (case l => k_is); (case c => k_is); (case k => k_is))
      (case kPartError => refine' RD.dfk_mk ?a ?l ?c ?k; (case a => k_is); (case l => k_is); (case c => k_is); (case k => k_is))
      (case kFormulaError => refine' RD.dfk_mk ?a ?l ?c ?k; (case a => k_is); (case l => k_is); (case c => k_is); (case k => k_is))
      (case kAreOne => refine' RD.dfk_mk ?a ?l ?c ?k; (case a => k_is); (case l => k_is); (case c => k_is); (case k => k_is))
      (case kTornBy => refine' RD.dfk_mk ?a ?l ?c ?k; (case a => k_is); (case l => k_is); (case c => k_is); (case k => k_is))
      (case kClash => refine' RD.dfk_mk ?a ?l ?c ?k; (case a => k_is); (case l => k_is); (case c => k_is); (case k => k_is))
      (case kClosed => refine' RD.dfk_mk ?a ?l ?c ?k; (case a => k_is); (case l => k_is); (case c => k_is); (case k => k_is))
      (case kEntryTold => refine' RD.dfk_mk ?a ?l ?c ?k; (case a => k_is); (case l => k_is); (case c => k_is); (case k => k_is))
      (case kShorter => refine' RD.dfk_mk ?a ?l ?c ?k; (case a => k_is); (case l => k_is); (case c => k_is); (case k => k_is))
      (case kFirstStep => refine' RD.dfk_mk ?a ?l ?c ?k; (case a => k_is); (case l => k_is); (case c => k_is); (case k => k_is))
      (case kSteps => refine' RD.dfk_mk ?a ?l ?c ?k; (case a => k_is); (case l => k_is); (case c => k_is); (case k => k_is))
      (case kSame => refine' RD.dfk_mk ?a ?l ?c ?k; (case a => k_is); (case l => k_is); (case c => k_is); (case k => k_is))
      (case kRoad => refine' RD.dfk_mk ?a ?l ?c ?k; (case a => k_is); (case l => k_is); (case c => k_is); (case k => k_is))
      (case kIsMove => refine' RD.dfk_mk ?a ?l ?c ?k; (case a => k_is); (case l => k_is); (case c => k_is); (case k => k_is))
      (case kIsStep => refine' RD.dfk_mk ?a ?l ?c ?k; (case a => k_is); (case l => k_is); (case c => k_is); (case k => k_is))
      (case kIsRoad => refine' RD.dfk_mk ?a ?l ?c ?k; (case a => k_is); (case l => k_is); (case c => k_is); (case k => k_is))
      (case kClosingOf => refine' RD.dfk_mk ?a ?l ?c ?k; (case a => k_is); (case l => k_is); (case c => k_is); (case k => k_is))
      (case kLCount => refine' RD.dfk_mk ?a ?l ?c ?k; (case a => k_is); (case l => k_is); (case c => k_is); (case k => k_is))
      (case kLPartWord => refine' RD.dfk_mk ?a ?l ?c ?k; (case a => k_is); (case l => k_is); (case c => k_is); (case k => k_is))
      (case kLFormulaWord => refine' RD.dfk_mk ?a ?l ?c ?k; (case a => k_is); (case l => k_is); (case c => k_is); (case k => k_is))
      (case kLRules => refine' RD.dfk_mk ?a ?l ?c ?k; (case a => k_is); (case l => k_is); (case c => k_is); (case k => k_is))
      (case kLMove => refine' RD.dfk_mk ?a ?l ?c ?k; (case a => k_is); (case l => k_is); (case c => k_is); (case k => k_is))
      (case kLIsStep => refine' RD.dfk_mk ?a ?l ?c ?k; (case a => k_is); (case l => k_is); (case c => k_is); (case k => k_is))
      (case kLIsRoad => refine' RD.dfk_mk ?a ?l ?c ?k; (case a => k_is); (case l => k_is); (case c => k_is); (case k => k_is))
      (case kLPlain => refine' RD.dfk_mk ?a ?l ?c ?k; (case a => k_is); (case l => k_is); (case c => k_is); (case k => k_is))
      (case kLRows => refine' RD.dfk_mk ?a ?l ?c ?k; (case a => k_is); (case l => k_is); (case c => k_is); (case k => k_is))
      (case kLClose => refine' RD.dfk_mk ?a ?l ?c ?k; (case a => k_is); (case l => k_is); (case c => k_is); (case k => k_is))
      (case kLMarks => refine' RD.dfk_mk ?a ?l ?c ?k; (case a => k_is); (case l => k_is); (case c => k_is); (case k => k_is))
      (case kLAllMarks => refine' RD.dfk_mk ?a ?l ?c ?k; (case a => k_is); (case l => k_is); (case c => k_is); (case k => k_is))
      (case kLLots => refine' RD.dfk_mk ?a ?l ?c ?k; (case a => k_is); (case l => k_is); (case c => k_is); (case k => k_is))
      (case kLClash => refine' RD.dfk_mk ?a ?l ?c ?k; (case a => k_is); (case l => k_is); (case c => k_is); (case k => k_is))
      (case kLDraw => refine' RD.dfk_mk ?a ?l ?c ?k; (case a => k_is); (case l => k_is); (case c => k_is); (case k => k_is))
      (case kLPick => refine' RD.dfk_mk ?a ?l ?c ?k; (case a => k_is); (case l => k_is); (case c => k_is); (case k => k_is))
      (case kLDivisor => refine' RD.dfk_mk ?a ?l ?c ?k; (case a => k_is); (case l => k_is); (case c => k_is); (case k => k_is))
      (case kLTurned => refine' RD.dfk_mk ?a ?l ?c ?k; (case a => k_is); (case l => k_is); (case c => k_is); (case k => k_is))
      (case kLThings => refine' RD.dfk_mk ?a ?l ?c ?k; (case a => k_is); (case l => k_is); (case c => k_is); (case k => k_is))
      (case kLFormula => refine' RD.dfk_mk ?a ?l ?c ?k; (case a => k_is); (case l => k_is); (case c => k_is); (case k => k_is))
      (case kLNear => refine' RD.dfk_mk ?a ?l ?c ?k; (case a => k_is); (case l => k_is); (case c => k_is); (case k => k_is))
      (case kLTurnOver => refine' RD.dfk_mk ?a ?l ?c ?k; (case a => k_is); (case l => k_is); (case c => k_is); (case k => k_is))
      (case kLTable => refine' RD.dfk_mk ?a ?l ?c ?k; (case a => k_is); (case l => k_is); (case c => k_is); (case k => k_is))
      (case kLFacts => refine' RD.dfk_mk ?a ?l ?c ?k; (case a => k_is); (case l => k_is); (case c => k_is); (case k => k_is))
      (case kLGoodFacts => refine' RD.dfk_mk ?a ?l ?c ?k; (case a => k_is); (case l => k_is); (case c => k_is); (case k => k_is))
      (case kLBag => refine' RD.dfk_mk ?a ?l ?c ?k; (case a => k_is); (case l => k_is); (case c => k_is); (case k => k_is))
      (case kClosingRoot => refine' RD.dmk_mk ?a ?i ?l ?c ?k; (case a => k_is); (case i => k_is); (case l => k_is); (case c => k_is); (case k => k_is))
      (case kClosingTold => refine' RD.dmk_mk ?a ?i ?l ?c ?k; (case a => k_is); (case i => k_is); (case l => k_is); (case c => k_is); (case k => k_is))
      (case kClosingJoin => refine' RD.dmk_mk ?a ?i ?l ?c ?k; (case a => k_is); (case i => k_is); (case l => k_is); (case c => k_is); (case k => k_is))
      (case kClosingRooted => refine' RD.dmk_mk ?a ?i ?l ?c ?k; (case a => k_is); (case i => k_is); (case l => k_is); (case c => k_is); (case k => k_is))
      (case kClosingIsJoined => refine' RD.dmk_mk ?a ?i ?l ?c ?k; (case a => k_is); (case i => k_is); (case l => k_is); (case c => k_is); (case k => k_is))
      (case kClosingSettle => refine' RD.dmk_mk ?a ?i ?l ?c ?k; (case a => k_is); (case i => k_is); (case l => k_is); (case c => k_is); (case k => k_is))

end
