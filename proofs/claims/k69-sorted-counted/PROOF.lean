import PyProof.Rows.All
import Wide.All
import OpenK.AllK
import Wide.FinOn
import HandS.ForMost
import KE.DataCmp
import KE.DataEq
import KE.DataMinMax
import KE.SortData
import HandS.IsInst
import HandS.Style
import HandS.Wide
import HandS.TupAny
import HandS.SortKw
import HandS.Conv
import PySem.Challenge.RW_leastplans_k69_sorted_counted_by_halves
set_option Elab.async false
set_option linter.all false
set_option maxRecDepth 100000
set_option maxHeartbeats 4000000
namespace DL
open PySem PySem.Spec PyProof.Rows L2
abbrev D := PyData
abbrev Foot := Addr → Prop
def Ex (H H' : Hp) : Prop := ∀ a o, H a = some o → H' a = some o
theorem Ex.refl (H : Hp) : Ex H H := fun _ _ h => h
theorem Ex.trans {H H1 H2 : Hp} (a : Ex H H1) (b : Ex H1 H2) : Ex H H2 := fun x o h => b x o (a x o h)
theorem Ex.new {H : Hp} {p : Addr} {o : HO} (h : H p = none) : Ex H (upd H p o) := fun a u e => by
  rw [upd_ne (ne_of_none e h)]
  exact e
theorem Ex.none {H H' : Hp} (e : Ex H H') {p : Addr} (h : H' p = none) : H p = none := by
  cases h1 : H p with
  | none => rfl
  | some o =>
    rw [e p o h1] at h
    cases h
theorem Ex.rd {H H' : Hp} {a : Addr} {u : HO} (e : Ex H H') (h : Rd H a u) : Rd H' a u := by
  rcases h with h | ⟨o, h⟩
  · exact Or.inl (e a _ h)
  · exact Or.inr ⟨o, e a _ h⟩
theorem Ex.sl {K : PySem.W.Frag} {H H' : Hp} {a : Addr} {xs : List V} (e : Ex H H') (h : SqL K H a xs) : SqL K H' a xs := by
  rcases h with h | h
  · exact Or.inl (e.rd h)
  · exact Or.inr h
theorem Ex.st {K : PySem.W.Frag} {H H' : Hp} {a : Addr} {xs : List V} (e : Ex H H') (h : SqT K H a xs) : SqT K H' a xs := by
  rcases h with h | h
  · exact Or.inl (e.rd h)
  · exact Or.inr h
mutual
theorem dp_mono {K : PySem.W.Frag} {H H' : Hp} (e : Ex H H') : ∀ {v : V} {d : D}, Dp K H v d → Dp K H' v d
  | _, _, .non => .non
  | _, _, .bl b => .bl b
  | _, _, .int i => .int i
  | _, _, .str x => .str x
  | _, _, .lst h a => .lst (e.sl h) (dpAll_mono e a)
  | _, _, .tup h a => .tup (e.st h) (dpAll_mono e a)
theorem dpAll_mono {K : PySem.W.Frag} {H H' : Hp} (e : Ex H H') : ∀ {vs : List V} {ds : List D}, DpAll K H vs ds → DpAll K H' vs ds
  | _, _, .nil => .nil
  | _, _, .cons h t => .cons (dp_mono e h) (dpAll_mono e t)
end
theorem dpAll_len {K : PySem.W.Frag} {H : Hp} : ∀ {vs : List V} {ds : List D}, DpAll K H vs ds → vs.length = ds.length
  | _, _, .nil => rfl
  | _, _, .cons _ t => congrArg (· + 1) (dpAll_len t)
theorem dpAll_get {K : PySem.W.Frag} {H : Hp} : ∀ {vs : List V} {ds : List D} {i : Nat} {d : D}, DpAll K H vs ds → ds[i]? = some d → ∃ v, vs[i]? = some v ∧ Dp K H v d
  | _, _, _, _, .nil, h => by simp at h
  | _, _, 0, _, .cons r _, h => by
    simp at h
    subst h
    exact ⟨_, rfl, r⟩
  | _, _, i + 1, _, .cons _ t, h => by
    obtain ⟨v, e, r⟩ := dpAll_get (i := i) t (by simpa using h)
    exact ⟨v, by simpa using e, r⟩
theorem dpAll_app {K : PySem.W.Frag} {H : Hp} : ∀ {vs ws : List V} {ds es : List D}, DpAll K H vs ds → DpAll K H ws es → DpAll K H (vs ++ ws) (ds ++ es)
  | _, _, _, _, .nil, h => h
  | _, _, _, _, .cons r t, h => .cons r (dpAll_app t h)
theorem dpAll_take {K : PySem.W.Frag} {H : Hp} : ∀ (n : Nat) {vs : List V} {ds : List D}, DpAll K H vs ds → DpAll K H (vs.take n) (ds.take n)
  | 0, _, _, _ => .nil
  | _ + 1, _, _, .nil => .nil
  | n + 1, _, _, .cons r t => .cons r (dpAll_take n t)
theorem dpAll_drop {K : PySem.W.Frag} {H : Hp} : ∀ (n : Nat) {vs : List V} {ds : List D}, DpAll K H vs ds → DpAll K H (vs.drop n) (ds.drop n)
  | 0, _, _, h => h
  | _ + 1, _, _, .nil => .nil
  | n + 1, _, _, .cons _ t => dpAll_drop n t
theorem dpAll_rev {K : PySem.W.Frag} {H : Hp} : ∀ {vs : List V} {ds : List D}, DpAll K H vs ds → DpAll K H vs.reverse ds.reverse
  | _, _, .nil => .nil
  | _, _, .cons r t => by
    rw [List.reverse_cons, List.reverse_cons]
    exact dpAll_app (dpAll_rev t) (.cons r .nil)
theorem dpAll_set {K : PySem.W.Frag} {H : Hp} {v : V} {d : D} (r : Dp K H v d) : ∀ (n : Nat) {vs : List V} {ds : List D}, DpAll K H vs ds → DpAll K H (vs.set n v) (ds.set n d)
  | _, _, _, .nil => .nil
  | 0, _, _, .cons _ t => .cons r t
  | n + 1, _, _, .cons q t => .cons q (dpAll_set r n t)
theorem dpAll_mem {K : PySem.W.Frag} {H : Hp} {vs : List V} {ds : List D} (h : DpAll K H vs ds) {v : V} (hv : v ∈ vs) : ∃ d, d ∈ ds ∧ Dp K H v d := by
  induction vs generalizing ds with
  | nil => simp at hv
  | cons x xs ih =>
    cases h with
    | cons r t =>
      rcases List.mem_cons.mp hv with rfl | hv
      · exact ⟨_, List.mem_cons_self, r⟩
      · obtain ⟨d, h1, h2⟩ := ih t hv
        exact ⟨d, List.mem_cons_of_mem _ h1, h2⟩
structure OD where
  rep : PySem.W.Frag → Hp → Hp → Addr → Foot → Prop
  mono : ∀ {K : PySem.W.Frag} {Hs H : Hp} {p : Addr} {fp : Foot} {Hs' H' : Hp}, rep K Hs H p fp → Ex Hs Hs' → (∀ b o, fp b → H b = some o → H' b = some o) → rep K Hs' H' p fp
def OD.lst (xs : List D) : OD where
  rep := fun K Hs H p fp => (∀ b, fp b ↔ b = p) ∧ ∃ vs, H p = some (.lst vs) ∧ DpAll K Hs vs xs
  mono := fun ⟨h1, vs, h2, h3⟩ e k => ⟨h1, vs, k _ _ ((h1 _).mpr rfl) h2, dpAll_mono e h3⟩
inductive SD where
  | un
  | dt (d : D)
  | ow (p : Addr) (o : OD)
abbrev Dl := List SD
def SRep (K : PySem.W.Frag) (B Hs H : Hp) (fp : Foot) : Option V → SD → Prop
  | _, .un => ∀ b, ¬ fp b
  | some v, .dt d => Dp K Hs v d ∧ ∀ b, ¬ fp b
  | some v, .ow p o => (v = .ref p ∧ o.rep K Hs H p fp) ∧ ∀ b, fp b → Hs b = none ∧ B b = none ∧ H b ≠ none
  | none, .dt _ => False
  | none, .ow _ _ => False
structure Fps (K : PySem.W.Frag) (B Hs H : Hp) (σ : List (Option V)) (δ : Dl) (fps : Nat → Foot) : Prop where
  sl : ∀ i s, δ[i]? = some s → ∃ x, σ[i]? = some x ∧ SRep K B Hs H (fps i) x s
  out : ∀ i, δ.length ≤ i → ∀ b, ¬ fps i b
  dj : ∀ i j b, fps i b → fps j b → i = j
structure Rep (K : PySem.W.Frag) (B H0 : Hp) (σ : L2.St) (δ : Dl) (H Hs : Hp) : Prop where
  len : σ.length = δ.length
  ex : Ex Hs H
  base : Ex B H
  frz : Ex H0 Hs
  frs : ∀ b, Hs b ≠ none → H0 b = none → B b = none
  sl : ∃ fps, Fps K B Hs H σ δ fps
structure PExt (Hs H Hs' H' : Hp) : Prop where
  s : Ex Hs Hs'
  h : Ex H H'
  i : Ex Hs' H'
  n : ∀ b, Hs' b ≠ none → Hs b = none → H b = none
theorem PExt.refl {Hs H : Hp} (e : Ex Hs H) : PExt Hs H Hs H := ⟨Ex.refl _, Ex.refl _, e, fun _ h1 h2 => absurd h2 h1⟩
theorem PExt.trans {Hs H Hs1 H1 Hs2 H2 : Hp} (a : PExt Hs H Hs1 H1) (b : PExt Hs1 H1 Hs2 H2) : PExt Hs H Hs2 H2 where
  s := a.s.trans b.s
  h := a.h.trans b.h
  i := b.i
  n := fun x h1 h2 => by
    cases h3 : Hs1 x with
    | none => exact a.h.none (b.n x h1 h3)
    | some o => exact a.n x (by rw [h3]; exact fun z => nomatch z) h2
theorem PExt.new {Hs H : Hp} (e : Ex Hs H) {p : Addr} (o : HO) (h : H p = none) : PExt Hs H (upd Hs p o) (upd H p o) where
  s := Ex.new (e.none h)
  h := Ex.new h
  i := fun a u q => by
    by_cases ha : a = p
    · subst ha
      rw [upd_same] at q ⊢
      exact q
    · rw [upd_ne ha] at q ⊢
      exact e a u q
  n := fun b h1 h2 => by
    by_cases ha : b = p
    · subst ha
      exact h
    · rw [upd_ne ha] at h1
      exact absurd h2 h1
theorem PExt.raw {Hs H : Hp} (e : Ex Hs H) {p : Addr} (o : HO) (h : H p = none) : PExt Hs H Hs (upd H p o) where
  s := Ex.refl _
  h := Ex.new h
  i := e.trans (Ex.new h)
  n := fun b h1 h2 => absurd h2 h1
section
variable {K : PySem.W.Frag} {B H0 Hs H Hs' H' : Hp} {σ : L2.St} {δ : Dl} {fp : Foot} {x : Option V} {s : SD}
theorem SRep.mono (h : SRep K B Hs H fp x s) (e : Ex Hs Hs') (k : ∀ b o, fp b → H b = some o → H' b = some o) (n : ∀ b, fp b → H b ≠ none → Hs b = none → B b = none → Hs' b = none) : SRep K B Hs' H' fp x s := by
  cases s with
  | un => exact h
  | dt d =>
    cases x with
    | none => exact h
    | some v => exact ⟨dp_mono e h.1, h.2⟩
  | ow p o =>
    cases x with
    | none => exact h
    | some v =>
      obtain ⟨⟨e1, r⟩, q⟩ := h
      refine ⟨⟨e1, o.mono r e k⟩, fun b hb => ?_⟩
      obtain ⟨q1, q2, q3⟩ := q b hb
      refine ⟨n b hb q3 q1 q2, q2, fun z => ?_⟩
      cases h1 : H b with
      | none => exact q3 h1
      | some o =>
        rw [k b o hb h1] at z
        cases z
theorem Rep.ext (R : Rep K B H0 σ δ H Hs) (e : PExt Hs H Hs' H') : Rep K B H0 σ δ H' Hs' where
  len := R.len
  ex := e.i
  base := R.base.trans e.h
  frz := R.frz.trans e.s
  frs := fun b h1 h2 => by
    cases h3 : Hs b with
    | none => exact R.base.none (e.n b h1 h3)
    | some o => exact R.frs b (by rw [h3]; exact fun z => nomatch z) h2
  sl := by
    obtain ⟨fps, F⟩ := R.sl
    refine ⟨fps, fun i s hs => ?_, F.out, F.dj⟩
    obtain ⟨x, e1, r⟩ := F.sl i s hs
    refine ⟨x, e1, r.mono e.s (fun b o _ h => e.h b o h) fun b _ h1 h2 h3 => ?_⟩
    cases h4 : Hs' b with
    | none => rfl
    | some o => exact absurd (e.n b (by rw [h4]; exact fun z => nomatch z) h2) h1
theorem Rep.get (R : Rep K B H0 σ δ H Hs) {i : Nat} {d : D} (h : δ[i]? = some (.dt d)) : ∃ v, σ[i]? = some (some v) ∧ Dp K Hs v d := by
  obtain ⟨fps, F⟩ := R.sl
  obtain ⟨x, e, r⟩ := F.sl i _ h
  cases x with
  | none => exact r.elim
  | some v => exact ⟨v, e, r.1⟩
theorem Rep.set (R : Rep K B H0 σ δ H Hs) {v : V} {d : D} (r : Dp K Hs v d) (i : Nat) : Rep K B H0 (σ.set i (some v)) (δ.set i (.dt d)) H Hs where
  len := by rw [List.length_set, List.length_set, R.len]
  ex := R.ex
  base := R.base
  frz := R.frz
  frs := R.frs
  sl := by
    obtain ⟨fps, F⟩ := R.sl
    refine ⟨fun j b => j ≠ i ∧ fps j b, fun j s hs => ?_, fun j hj b hb => F.out j (by rw [List.length_set] at hj; exact hj) b hb.2, fun j k b h1 h2 => F.dj j k b h1.2 h2.2⟩
    by_cases hj : i = j
    · subst hj
      have hl : i < δ.length := by
        have := (List.getElem?_eq_some_iff.mp hs).1
        rw [List.length_set] at this
        exact this
      rw [List.getElem?_set_self hl] at hs
      cases hs
      exact ⟨some v, List.getElem?_set_self (by rw [R.len]; exact hl), r, fun b hb => hb.1 rfl⟩
    · rw [List.getElem?_set_ne hj] at hs
      obtain ⟨x, e, q⟩ := F.sl j s hs
      refine ⟨x, by rw [List.getElem?_set_ne hj]; exact e, ?_⟩
      have : (fun b => j ≠ i ∧ fps j b) = fps j := funext fun b => propext ⟨fun z => z.2, fun z => ⟨fun z => hj z.symm, z⟩⟩
      rw [this]
      exact q
theorem Rep.setO (R : Rep K B H0 σ δ H Hs) {fps : Nat → Foot} (F : Fps K B Hs H σ δ fps) {p : Addr} {o : OD} {fp : Foot} {i : Nat} (r : o.rep K Hs H p fp) (hf : ∀ b, fp b → Hs b = none ∧ B b = none ∧ H b ≠ none) (hd : ∀ j b, j ≠ i → fps j b → ¬ fp b) (hi : i < δ.length) :
    Rep K B H0 (σ.set i (some (.ref p))) (δ.set i (.ow p o)) H Hs where
  len := by rw [List.length_set, List.length_set, R.len]
  ex := R.ex
  base := R.base
  frz := R.frz
  frs := R.frs
  sl := by
    refine ⟨fun j => if j = i then fp else fps j, fun j s hs => ?_, fun j hj b hb => ?_, fun j k b h1 h2 => ?_⟩
    · by_cases hj : i = j
      · subst hj
        rw [List.getElem?_set_self hi] at hs
        cases hs
        rw [if_pos rfl]
        exact ⟨some (.ref p), List.getElem?_set_self (by rw [R.len]; exact hi), ⟨rfl, r⟩, hf⟩
      · rw [List.getElem?_set_ne hj] at hs
        obtain ⟨x, e, q⟩ := F.sl j s hs
        rw [if_neg (fun z => hj z.symm)]
        exact ⟨x, by rw [List.getElem?_set_ne hj]; exact e, q⟩
    · rw [List.length_set] at hj
      have : j ≠ i := by omega
      simp only [if_neg this] at hb
      exact F.out j hj b hb
    · by_cases e1 : j = i
      · by_cases e2 : k = i
        · rw [e1, e2]
        · simp only [if_pos e1] at h1
          simp only [if_neg e2] at h2
          exact absurd h1 (hd k b e2 h2)
      · by_cases e2 : k = i
        · simp only [if_neg e1] at h1
          simp only [if_pos e2] at h2
          exact absurd h2 (hd j b e1 h1)
        · simp only [if_neg e1] at h1
          simp only [if_neg e2] at h2
          exact F.dj j k b h1 h2
end
end DL
namespace DL
open PySem PySem.Spec PyProof.Rows L2
section
variable {K : PySem.W.Frag} {B H0 Hs H : Hp} {σ : L2.St} {δ : Dl} {p : Addr} {o o' : HO}
theorem Rep.hs_none (R : Rep K (upd B p o) H0 σ δ H Hs) (h0 : H0 p = none) : Hs p = none := by
  cases h : Hs p with
  | none => rfl
  | some u =>
    have z := R.frs p (by rw [h]; exact fun z => nomatch z) h0
    rw [upd_same] at z
    cases z
theorem Rep.at_p (R : Rep K (upd B p o) H0 σ δ H Hs) : H p = some o := R.base p o upd_same
theorem Fps.not_p {fps : Nat → Foot} (F : Fps K (upd B p o) Hs H σ δ fps) (i : Nat) : ¬ fps i p := fun hb => by
  by_cases hi : i < δ.length
  · obtain ⟨x, e, r⟩ := F.sl i δ[i] (List.getElem?_eq_getElem hi)
    cases hs : δ[i] with
    | un =>
      rw [hs] at r
      exact r p hb
    | dt d =>
      rw [hs] at r
      cases x with
      | none => exact r
      | some v => exact r.2 p hb
    | ow a0 q =>
      rw [hs] at r
      cases x with
      | none => exact r
      | some v =>
        have z := (r.2 p hb).2.1
        rw [upd_same] at z
        cases z
  · exact F.out i (by omega) p hb
theorem ex_upd_B (h : B p = none) : Ex B (upd B p o) := Ex.new h
theorem SRep.base {B' : Hp} {fp : Foot} {x : Option V} {s : SD} (h : SRep K B Hs H fp x s) (e : Ex B' B) : SRep K B' Hs H fp x s := by
  cases s with
  | un => exact h
  | dt d =>
    cases x with
    | none => exact h
    | some v => exact h
  | ow a0 q =>
    cases x with
    | none => exact h
    | some v => exact ⟨h.1, fun b hb => ⟨(h.2 b hb).1, e.none (h.2 b hb).2.1, (h.2 b hb).2.2⟩⟩
theorem Rep.weaken {B' : Hp} (R : Rep K B H0 σ δ H Hs) (e : Ex B' B) : Rep K B' H0 σ δ H Hs where
  len := R.len
  ex := R.ex
  base := e.trans R.base
  frz := R.frz
  frs := fun b h1 h2 => e.none (R.frs b h1 h2)
  sl := by
    obtain ⟨fps, F⟩ := R.sl
    exact ⟨fps, fun i s hs => by
      obtain ⟨x, e1, r⟩ := F.sl i s hs
      exact ⟨x, e1, r.base e⟩, F.out, F.dj⟩
theorem Rep.hide (R : Rep K B H0 σ δ H Hs) (hp : H p = none) : Rep K (upd B p o) H0 σ δ (upd H p o) Hs where
  len := R.len
  ex := R.ex.trans (Ex.new hp)
  base := fun a u q => by
    by_cases ha : a = p
    · subst ha
      rw [upd_same] at q ⊢
      exact q
    · rw [upd_ne ha] at q ⊢
      exact R.base a u q
  frz := R.frz
  frs := fun b h1 h2 => by
    have hb : b ≠ p := fun z => by
      subst z
      exact h1 (R.ex.none hp)
    rw [upd_ne hb]
    exact R.frs b h1 h2
  sl := by
    obtain ⟨fps, F⟩ := R.sl
    refine ⟨fps, fun i s hs => ?_, F.out, F.dj⟩
    obtain ⟨x, e1, r⟩ := F.sl i s hs
    refine ⟨x, e1, ?_⟩
    cases s with
    | un => exact r
    | dt d =>
      cases x with
      | none => exact r
      | some v => exact r
    | ow a0 q =>
      cases x with
      | none => exact r
      | some v =>
        obtain ⟨⟨e2, z⟩, w⟩ := r
        have np : ∀ b, fps i b → b ≠ p := fun b hb z => by
          subst z
          exact (w b hb).2.2 hp
        refine ⟨⟨e2, q.mono z (Ex.refl _) fun b u hb hu => ?_⟩, fun b hb => ?_⟩
        · rw [upd_ne (np b hb)]
          exact hu
        · rw [upd_ne (np b hb), upd_ne (np b hb)]
          exact w b hb
theorem Rep.hset (R : Rep K (upd B p o) H0 σ δ H Hs) (h0 : H0 p = none) : Rep K (upd B p o') H0 σ δ (upd H p o') Hs where
  len := R.len
  ex := fun a u q => by
    have ha : a ≠ p := fun z => by
      subst z
      rw [R.hs_none h0] at q
      cases q
    rw [upd_ne ha]
    exact R.ex a u q
  base := fun a u q => by
    by_cases ha : a = p
    · subst ha
      rw [upd_same] at q ⊢
      exact q
    · rw [upd_ne ha] at q ⊢
      exact R.base a u (by rw [upd_ne ha]; exact q)
  frz := R.frz
  frs := fun b h1 h2 => by
    have z := R.frs b h1 h2
    have hb : b ≠ p := fun w => by
      subst w
      rw [upd_same] at z
      cases z
    rw [upd_ne hb] at z ⊢
    exact z
  sl := by
    obtain ⟨fps, F⟩ := R.sl
    refine ⟨fps, fun i s hs => ?_, F.out, F.dj⟩
    obtain ⟨x, e1, r⟩ := F.sl i s hs
    refine ⟨x, e1, ?_⟩
    have np : ∀ b, fps i b → b ≠ p := fun b hb z => by
      subst z
      exact F.not_p i hb
    cases s with
    | un => exact r
    | dt d =>
      cases x with
      | none => exact r
      | some v => exact r
    | ow a0 q =>
      cases x with
      | none => exact r
      | some v =>
        obtain ⟨⟨e2, z⟩, w⟩ := r
        refine ⟨⟨e2, q.mono z (Ex.refl _) fun b u hb hu => ?_⟩, fun b hb => ?_⟩
        · rw [upd_ne (np b hb)]
          exact hu
        · have := w b hb
          rw [upd_ne (np b hb)] at this
          rw [upd_ne (np b hb), upd_ne (np b hb)]
          exact this
theorem Rep.reveal (R : Rep K B H0 σ δ H Hs) {fps : Nat → Foot} (F : Fps K B Hs H σ δ fps) (np : ∀ i, ¬ fps i p) (hp : H p = some o) (hs : Hs p = none) : Rep K (upd B p o) H0 σ δ H Hs where
  len := R.len
  ex := R.ex
  base := fun a u q => by
    by_cases ha : a = p
    · subst ha
      rw [upd_same] at q
      rw [← q]
      exact hp
    · rw [upd_ne ha] at q
      exact R.base a u q
  frz := R.frz
  frs := fun b h1 h2 => by
    have hb : b ≠ p := fun z => by
      subst z
      exact h1 hs
    rw [upd_ne hb]
    exact R.frs b h1 h2
  sl := by
    refine ⟨fps, fun i s hs => ?_, F.out, F.dj⟩
    obtain ⟨x, e1, r⟩ := F.sl i s hs
    refine ⟨x, e1, ?_⟩
    cases s with
    | un => exact r
    | dt d =>
      cases x with
      | none => exact r
      | some v => exact r
    | ow a0 q =>
      cases x with
      | none => exact r
      | some v =>
        refine ⟨r.1, fun b hb => ⟨(r.2 b hb).1, ?_, (r.2 b hb).2.2⟩⟩
        rw [upd_ne (fun z => by subst z; exact np i hb)]
        exact (r.2 b hb).2.1
theorem Rep.freeze (R : Rep K (upd B p o) H0 σ δ H Hs) (hB : B p = none) : Rep K B H0 σ δ H (upd Hs p o) := by
  have hp := R.at_p
  have hx : Ex Hs (upd Hs p o) := fun a u q => by
    by_cases ha : a = p
    · subst ha
      have := R.ex a u q
      rw [hp] at this
      rw [upd_same]
      exact this
    · rw [upd_ne ha]
      exact q
  refine ⟨R.len, fun a u q => ?_, (ex_upd_B hB).trans R.base, R.frz.trans hx, fun b h1 h2 => ?_, ?_⟩
  · by_cases ha : a = p
    · subst ha
      rw [upd_same] at q
      rw [← q]
      exact hp
    · rw [upd_ne ha] at q
      exact R.ex a u q
  · by_cases ha : b = p
    · subst ha
      exact hB
    · rw [upd_ne ha] at h1
      have z := R.frs b h1 h2
      rw [upd_ne ha] at z
      exact z
  · obtain ⟨fps, F⟩ := R.sl
    refine ⟨fps, fun i s hs => ?_, F.out, F.dj⟩
    obtain ⟨x, e1, r⟩ := F.sl i s hs
    exact ⟨x, e1, (r.base (ex_upd_B hB)).mono hx (fun b u _ q => q) fun b hb _ h2 _ => by
      rw [upd_ne (fun z => by subst z; exact F.not_p i hb)]
      exact h2⟩
theorem Rep.freeze_ex (R : Rep K (upd B p o) H0 σ δ H Hs) (h0 : H0 p = none) : Ex Hs (upd Hs p o) := Ex.new (R.hs_none h0)
theorem Rep.own {vs : List V} {xs : List D} (R : Rep K (upd B p (.lst vs)) H0 σ δ H Hs) (hB : B p = none) (h0 : H0 p = none) (r : DpAll K Hs vs xs) {i : Nat} (hi : i < δ.length) : Rep K B H0 (σ.set i (some (.ref p))) (δ.set i (.ow p (.lst xs))) H Hs := by
  have hp := R.at_p
  obtain ⟨fps, F⟩ := R.sl
  have F' : Fps K B Hs H σ δ fps := ⟨fun i s hs => by
    obtain ⟨x, e1, r⟩ := F.sl i s hs
    exact ⟨x, e1, r.base (ex_upd_B hB)⟩, F.out, F.dj⟩
  refine (R.weaken (ex_upd_B hB)).setO F' (fp := fun b => b = p) ⟨fun b => Iff.rfl, vs, hp, r⟩ (fun b hb => ?_) (fun j b hj hb e => ?_) hi
  · subst hb
    exact ⟨R.hs_none h0, hB, by rw [hp]; exact fun z => nomatch z⟩
  · subst e
    exact F.not_p j hb
theorem Rep.take {xs : List D} {i : Nat} (R : Rep K B H0 σ δ H Hs) (h : δ[i]? = some (.ow p (.lst xs))) :
    ∃ vs, σ[i]? = some (some (.ref p)) ∧ H p = some (.lst vs) ∧ Hs p = none ∧ B p = none ∧ H0 p = none ∧ DpAll K Hs vs xs ∧ Rep K (upd B p (.lst vs)) H0 σ (δ.set i .un) H Hs := by
  obtain ⟨fps, F⟩ := R.sl
  obtain ⟨x, e, r⟩ := F.sl i _ h
  cases x with
  | none => exact r.elim
  | some v =>
    obtain ⟨⟨rfl, hfp, vs, hp, ha⟩, q⟩ := r
    have hpp := (hfp p).mpr rfl
    obtain ⟨q1, q2, q3⟩ := q p hpp
    refine ⟨vs, e, hp, q1, q2, R.frz.none q1, ha, ⟨by rw [List.length_set, R.len], R.ex, fun a u z => ?_, R.frz, fun b h1 h2 => ?_, fun j b => j ≠ i ∧ fps j b, fun j s hs => ?_, fun j hj b hb => ?_, fun j k b h1 h2 => F.dj j k b h1.2 h2.2⟩⟩
    · by_cases ha' : a = p
      · subst ha'
        rw [upd_same] at z
        rw [← z]
        exact hp
      · rw [upd_ne ha'] at z
        exact R.base a u z
    · have hb : b ≠ p := fun z => by
        subst z
        exact h1 q1
      rw [upd_ne hb]
      exact R.frs b h1 h2
    · by_cases hj : i = j
      · subst hj
        rw [List.getElem?_set_self (List.getElem?_eq_some_iff.mp h).1] at hs
        cases hs
        exact ⟨_, e, fun b hb => hb.1 rfl⟩
      · rw [List.getElem?_set_ne hj] at hs
        obtain ⟨y, e1, r1⟩ := F.sl j s hs
        refine ⟨y, e1, ?_⟩
        have eq : (fun b => j ≠ i ∧ fps j b) = fps j := funext fun b => propext ⟨fun z => z.2, fun z => ⟨fun z => hj z.symm, z⟩⟩
        rw [eq]
        cases s with
        | un => exact r1
        | dt d =>
          cases y with
          | none => exact r1
          | some w => exact r1
        | ow a0 o =>
          cases y with
          | none => exact r1
          | some w =>
            refine ⟨r1.1, fun b hb => ⟨(r1.2 b hb).1, ?_, (r1.2 b hb).2.2⟩⟩
            rw [upd_ne (fun z => by subst z; exact hj (F.dj i j b hpp hb))]
            exact (r1.2 b hb).2.1
    · rw [List.length_set] at hj
      exact F.out j hj b hb.2
theorem set_self {α : Type} {l : List α} {i : Nat} {a : α} (h : l[i]? = some a) : l.set i a = l := by
  refine List.ext_getElem? fun j => ?_
  by_cases hj : i = j
  · subst hj
    rw [List.getElem?_set_self (List.getElem?_eq_some_iff.mp h).1, h]
  · rw [List.getElem?_set_ne hj]
theorem lt_of_get {α : Type} {l : List α} {i : Nat} {a : α} (h : l[i]? = some a) : i < l.length := (List.getElem?_eq_some_iff.mp h).1
theorem Rep.change {xs ys : List D} {i : Nat} {ws : List V} (R : Rep K B H0 σ δ H Hs) (h : δ[i]? = some (.ow p (.lst xs))) (r : DpAll K Hs ws ys) :
    Rep K B H0 σ (δ.set i (.ow p (.lst ys))) (upd H p (.lst ws)) Hs := by
  obtain ⟨vs, hi, hp, h1, h2, h3, ha, R1⟩ := R.take h
  have R2 : Rep K (upd B p (.lst ws)) H0 σ (δ.set i .un) (upd H p (.lst ws)) Hs := R1.hset h3
  have R3 := R2.own h2 h3 r (i := i) (by rw [List.length_set]; exact lt_of_get h)
  rw [set_self hi, List.set_set] at R3
  exact R3
theorem Rep.frzAt {xs : List D} {i : Nat} (R : Rep K B H0 σ δ H Hs) (h : δ[i]? = some (.ow p (.lst xs))) :
    ∃ v Hs', σ[i]? = some (some v) ∧ Ex Hs Hs' ∧ Dp K Hs' v (.list xs) ∧ Rep K B H0 σ (δ.set i (.dt (.list xs))) H Hs' := by
  obtain ⟨vs, e, hp, h1, h2, h3, ha, R1⟩ := R.take h
  have R2 := R1.freeze h2
  have x := R1.freeze_ex h3
  have d : Dp K (upd Hs p (.lst vs)) (.ref p) (.list xs) := .lst (.inl (.inl upd_same)) (dpAll_mono x ha)
  have R3 := R2.set d i
  rw [set_self e, List.set_set] at R3
  exact ⟨.ref p, _, e, x, d, R3⟩
end
end DL
namespace DL
open PySem PySem.Spec PyProof.Rows L2
abbrev TDE := Dl → (D → Dl → Prop) → Prop
abbrev TDL := Dl → (List D → Dl → Prop) → Prop
abbrev TDB := Dl → (Bool → Dl → Prop) → Prop
inductive RS where
  | dt (d : D)
  | new (xs : List D)
structure DEnds where
  nx : Dl → Prop
  rt : RS → Dl → Prop
  bk : Dl → Prop := fun _ => False
  ct : Dl → Prop := fun _ => False
abbrev TDS := DEnds → Dl → Prop
def SimE (K : PySem.W.Frag) (te : TE) (t : TDE) : Prop := ∀ {B H0 : Hp} {σ : L2.St} {δ : Dl} {H Hs : Hp} {Q : D → Dl → Prop} {Q' : VK}, Rep K B H0 σ δ H Hs → t δ Q →
  (∀ v d δ' H' Hs', Rep K B H0 σ δ' H' Hs' → Ex Hs Hs' → Dp K Hs' v d → Q d δ' → Q' v H') → te σ H Q'
def SimN (K : PySem.W.Frag) (te : TE) (t : TDL) : Prop := ∀ {B H0 : Hp} {σ : L2.St} {δ : Dl} {H Hs : Hp} {Q : List D → Dl → Prop} {Q' : VK}, Rep K B H0 σ δ H Hs → t δ Q →
  (∀ p vs xs δ' H' Hs', Rep K (upd B p (.lst vs)) H0 σ δ' H' Hs' → B p = none → H0 p = none → Ex Hs Hs' → DpAll K Hs' vs xs → Q xs δ' → Q' (.ref p) H') → te σ H Q'
def SimA (K : PySem.W.Frag) (te : TA) (t : TDL) : Prop := ∀ {B H0 : Hp} {σ : L2.St} {δ : Dl} {H Hs : Hp} {Q : List D → Dl → Prop} {Q' : List V → Hp → Prop}, Rep K B H0 σ δ H Hs → t δ Q →
  (∀ vs xs δ' H' Hs', Rep K B H0 σ δ' H' Hs' → Ex Hs Hs' → DpAll K Hs' vs xs → Q xs δ' → Q' vs H') → te σ H Q'
def SimT (K : PySem.W.Frag) (te : TT) (t : TDB) : Prop := ∀ {B H0 : Hp} {σ : L2.St} {δ : Dl} {H Hs : Hp} {Q : Bool → Dl → Prop} {Q' : Bool → Hp → Prop}, Rep K B H0 σ δ H Hs → t δ Q →
  (∀ b δ' H' Hs', Rep K B H0 σ δ' H' Hs' → Ex Hs Hs' → Q b δ' → Q' b H') → te σ H Q'
structure JE (X : Cx) (e : Expr) (u : TE) (t : TDE) : Prop where
  p : PE X e u
  s : SimE X.K u t
structure JN (X : Cx) (e : Expr) (u : TE) (t : TDL) : Prop where
  p : PE X e u
  s : SimN X.K u t
structure JA (X : Cx) (es : List Expr) (u : TA) (t : TDL) : Prop where
  p : PA X es u
  s : SimA X.K u t
structure JT (X : Cx) (e : Expr) (u : TT) (t : TDB) : Prop where
  p : PT X e u
  s : SimT X.K u t
structure JW (X : Cx) (e : Expr) (u : TT) (t : TDB) : Prop where
  p : PW X e u
  s : SimT X.K u t
section
variable {X : Cx} {e a b : Expr} {es : List Expr} {pos : Pos} {t ta tb : TDE} {ue ua ub uc : TE} {us ur : TA} {vt vu : TT} {r r' : R2}
def dVar (i : Nat) : TDE := fun δ Q => ∃ d, δ[i]? = some (.dt d) ∧ Q d δ
def dFrz (i : Nat) : TDE := fun δ Q => ∃ p xs, δ[i]? = some (.ow p (.lst xs)) ∧ Q (.list xs) (δ.set i (.dt (.list xs)))
def dC (d : D) : TDE := fun δ Q => Q d δ
theorem je_var (i : Nat) {x : Str} (hN : X.N[i]? = some x := by rfl) (hv : Vis X.env.scope x := by first | exact Or.inl rfl | exact Or.inr (Or.inl rfl) | exact Or.inr (Or.inr rfl)) (hd : (x == ("__debug__" : Str)) = false := by decide)
    (hcd : (x == ("__classdict__" : Str)) = false := by decide) : JE X (.Name x pos) (tVar i) (dVar i) :=
  ⟨pe_var hN hv hd hcd, fun R ⟨d, h, q⟩ k => by
    obtain ⟨v, e, r⟩ := R.get h
    exact ⟨v, e, k _ _ _ _ _ R (Ex.refl _) r q⟩⟩
theorem je_frz (i : Nat) {x : Str} (hN : X.N[i]? = some x := by rfl) (hv : Vis X.env.scope x := by first | exact Or.inl rfl | exact Or.inr (Or.inl rfl) | exact Or.inr (Or.inr rfl)) (hd : (x == ("__debug__" : Str)) = false := by decide)
    (hcd : (x == ("__classdict__" : Str)) = false := by decide) : JE X (.Name x pos) (tVar i) (dFrz i) :=
  ⟨pe_var hN hv hd hcd, fun R ⟨p, xs, h, q⟩ k => by
    obtain ⟨v, Hs', e, x, r, R'⟩ := R.frzAt h
    exact ⟨v, e, k _ _ _ _ _ R' x r q⟩⟩
theorem je_int {i : Int} {j} : JE X (.Constant (.int i) j pos) (tC (.int i)) (dC (.int i)) := ⟨pe_int, fun R h k => k _ _ _ _ _ R (Ex.refl _) (.int i) h⟩
theorem je_bl {c : Bool} {j} : JE X (.Constant (.bool c) j pos) (tC (.bl c)) (dC (.bool c)) := ⟨pe_bl, fun R h k => k _ _ _ _ _ R (Ex.refl _) (.bl c) h⟩
theorem je_non {j} : JE X (.Constant .none j pos) (tC .non) (dC .none) := ⟨pe_non, fun R h k => k _ _ _ _ _ R (Ex.refl _) .non h⟩
theorem je_str {x : Str} {j} : JE X (.Constant (.str x) j pos) (tC (.str x)) (dC (.str x)) := ⟨pe_str, fun R h k => k _ _ _ _ _ R (Ex.refl _) (.str x) h⟩
def dNil : TDL := fun δ Q => Q [] δ
def dCons (t : TDE) (u : TDL) : TDL := fun δ Q => t δ fun d δ1 => u δ1 fun ds δ2 => Q (d :: ds) δ2
theorem ja_nil : JA X [] tNil dNil := ⟨pa_nil, fun R h k => k _ _ _ _ _ R (Ex.refl _) .nil h⟩
theorem ja_cons {u : TDL} (ha : JE X e ue t) (hr : JA X es ur u) (hs : starEach (e :: es) X.env = (false, eval e X.env) :: starEach es X.env := by rfl) : JA X (e :: es) (tCons ue ur) (dCons t u) := by
  obtain ⟨pe, se⟩ := ha
  obtain ⟨pr, sr⟩ := hr
  refine ⟨pa_cons pe pr hs, fun R h k => ?_⟩
  refine se R h fun v d δ1 H1 Hs1 R1 e1 r1 h1 => ?_
  exact sr R1 h1 fun vs ds δ2 H2 Hs2 R2 e2 r2 h2 => k _ _ _ _ _ R2 (e1.trans e2) (.cons (dp_mono e2 r1) r2) h2
def dTup (t : TDL) : TDE := fun δ Q => t δ fun ds δ' => ds.length ≤ 10000 ∧ Q (.tuple ds) δ'
theorem je_tup {t : TDL} {x1} (h : JA X es us t) : JE X (.Tuple es x1 pos) (tTup us) (dTup t) := by
  obtain ⟨pa, sa⟩ := h
  refine ⟨pe_tup pa, fun R h k => ?_⟩
  refine sa R h fun vs ds δ1 H1 Hs1 R1 e1 r1 ⟨z, q⟩ => ⟨by rw [dpAll_len r1]; exact Nat.le_trans z (by decide), fun p hp => ?_⟩
  have x := PExt.new R1.ex (.tup vs) hp
  exact k _ _ _ _ _ (R1.ext x) (e1.trans x.s) (.tup (.inl (.inl upd_same)) (dpAll_mono x.s r1)) q
def dN (t : TDL) : TDE := fun δ Q => t δ fun xs δ' => Q (.list xs) δ'
theorem je_new {t : TDL} (h : JN X e ue t) : JE X e ue (dN t) := by
  obtain ⟨pe, se⟩ := h
  refine ⟨pe, fun R h k => ?_⟩
  refine se R h fun p vs xs δ1 H1 Hs1 R1 hB h0 e1 r1 q => ?_
  have e2 := R1.freeze_ex h0
  exact k _ _ _ _ _ (R1.freeze hB) (e1.trans e2) (.lst (.inl (.inl upd_same)) (dpAll_mono e2 r1)) q
def dLst (t : TDL) : TDL := fun δ Q => t δ fun ds δ' => ds.length ≤ 10000 ∧ Q ds δ'
theorem jn_lst {t : TDL} (h : JA X es us t) : JN X (.List es pos) (tLst us) (dLst t) := by
  obtain ⟨pa, sa⟩ := h
  refine ⟨pe_lst pa, fun R h k => ?_⟩
  refine sa R h fun vs ds δ1 H1 Hs1 R1 e1 r1 ⟨z, q⟩ => ⟨by rw [dpAll_len r1]; exact Nat.le_trans z (by decide), fun p hp => ?_⟩
  exact k _ _ _ _ _ _ (R1.hide hp) (R1.base.none hp) (R1.frz.none (R1.ex.none hp)) e1 r1 q
def SimR (K : PySem.W.Frag) (r : R2) (rd : D → D → (D → Prop) → Prop) : Prop := ∀ {Hs H : Hp} {x y : V} {dx dy : D} {Q : D → Prop} {Q' : VK}, Ex Hs H → Dp K Hs x dx → Dp K Hs y dy → rd dx dy Q →
  (∀ v d Hs' H', PExt Hs H Hs' H' → Dp K Hs' v d → Q d → Q' v H') → r x y H Q'
structure OpD (X : Cx) (f : Value → Value → Sem Value) (r : R2) (rd : D → D → (D → Prop) → Prop) : Prop where
  p : OpR X f r
  s : SimR X.K r rd
def dOp (rd : D → D → (D → Prop) → Prop) (ta tb : TDE) : TDE := fun δ Q => ta δ fun x δ1 => tb δ1 fun y δ2 => rd x y fun d => Q d δ2
theorem sim_op {K : PySem.W.Frag} {r : R2} {rd : D → D → (D → Prop) → Prop} {ua ub : TE} (sr : SimR K r rd) (sa : SimE K ua ta) (sb : SimE K ub tb) : SimE K (tOp r ua ub) (dOp rd ta tb) := by
  intro B H0 σ δ H Hs Q Q' R h k
  refine sa R h fun x dx δ1 H1 Hs1 R1 e1 r1 h1 => ?_
  refine sb R1 h1 fun y dy δ2 H2 Hs2 R2 e2 r2 h2 => ?_
  exact sr R2.ex (dp_mono e2 r1) r2 h2 fun v d Hs' H' x r q => k _ _ _ _ _ (R2.ext x) ((e1.trans e2).trans x.s) r q
theorem je_op {op : Operator} {rd : D → D → (D → Prop) → Prop} (ho : OpD X (binaryOp op) r rd) (ha : JE X a ua ta) (hb : JE X b ub tb) : JE X (.BinOp a op b pos) (tOp r ua ub) (dOp rd ta tb) := by
  obtain ⟨o, s⟩ := ho
  obtain ⟨pa, sa⟩ := ha
  obtain ⟨pb, sb⟩ := hb
  exact ⟨pe_op o pa pb, sim_op s sa sb⟩
theorem je_cmp {op : CmpOp} {rd : D → D → (D → Prop) → Prop} (ho : OpD X (compareOp op) r rd) (ha : JE X a ua ta) (hb : JE X b ub tb) (hm : behindInMarks op b = false := by first | exact nomark _ | with_unfolding_all rfl) : JE X (.Compare a [op] [b] pos) (tOp r ua ub) (dOp rd ta tb) := by
  obtain ⟨o, s⟩ := ho
  obtain ⟨pa, sa⟩ := ha
  obtain ⟨pb, sb⟩ := hb
  exact ⟨pe_cmpR o pa pb hm, sim_op s sa sb⟩
def dTest (t : TDE) : TDB := fun δ Q => t δ fun d δ' => ∃ c, d = .bool c ∧ Q c δ'
theorem sim_test {K : PySem.W.Frag} {ua : TE} (sa : SimE K ua ta) : SimT K (tTest ua) (dTest ta) := by
  intro B H0 σ δ H Hs Q Q' R h k
  refine sa R h fun v d δ1 H1 Hs1 R1 e1 r1 ⟨c, e, q⟩ => ?_
  subst e
  cases r1
  exact ⟨c, rfl, k _ _ _ _ R1 e1 q⟩
theorem jt_cmp {op : CmpOp} {rd : D → D → (D → Prop) → Prop} (ho : OpD X (compareOp op) r rd) (ha : JE X a ua ta) (hb : JE X b ub tb) (hm : behindInMarks op b = false := by first | exact nomark _ | with_unfolding_all rfl) : JT X (.Compare a [op] [b] pos) (tTest (tOp r ua ub)) (dTest (dOp rd ta tb)) := by
  obtain ⟨o, s⟩ := ho
  obtain ⟨pa, sa⟩ := ha
  obtain ⟨pb, sb⟩ := hb
  exact ⟨pt_cmpR o pa pb hm, sim_test (sim_op s sa sb)⟩
def dChain (rd rd' : D → D → (D → Prop) → Prop) (ta tb tc : TDE) : TDE := fun δ Q => ta δ fun x δ1 => tb δ1 fun y δ2 => rd x y fun z => ∃ k, z = .bool k ∧ (if k = true then tc δ2 fun w δ3 => rd' y w fun d => Q d δ3 else Q (.bool false) δ2)
theorem sim_chain {K : PySem.W.Frag} {r r' : R2} {rd rd' : D → D → (D → Prop) → Prop} {ua ub uc : TE} {tc : TDE} (sr : SimR K r rd) (sr' : SimR K r' rd') (sa : SimE K ua ta) (sb : SimE K ub tb) (sc : SimE K uc tc) : SimE K (tChain r r' ua ub uc) (dChain rd rd' ta tb tc) := by
  intro B H0 σ δ H Hs Q Q' R h k
  refine sa R h fun x dx δ1 H1 Hs1 R1 e1 r1 h1 => ?_
  refine sb R1 h1 fun y dy δ2 H2 Hs2 R2 e2 r2 h2 => ?_
  refine sr R2.ex (dp_mono e2 r1) r2 h2 fun v d Hs3 H3 x3 r3 ⟨c, e, q⟩ => ?_
  subst e
  cases r3
  refine ⟨c, rfl, ?_⟩
  cases c with
  | true =>
    rw [if_pos rfl] at q ⊢
    refine sc (R2.ext x3) q fun w dw δ4 H4 Hs4 R4 e4 r4 h4 => ?_
    exact sr' R4.ex (dp_mono (x3.s.trans e4) r2) r4 h4 fun v d Hs5 H5 x5 r5 q5 => k _ _ _ _ _ (R4.ext x5) ((((e1.trans e2).trans x3.s).trans e4).trans x5.s) r5 q5
  | false =>
    rw [if_neg Bool.false_ne_true] at q ⊢
    exact k _ _ _ _ _ (R2.ext x3) ((e1.trans e2).trans x3.s) (.bl false) q
theorem je_chain {op op' : CmpOp} {c : Expr} {tc : TDE} {rd rd' : D → D → (D → Prop) → Prop} (ho : OpD X (compareOp op) r rd) (ho' : OpD X (compareOp op') r' rd') (ha : JE X a ua ta) (hb : JE X b ub tb) (hc : JE X c uc tc) (hm : lastMarks [op, op'] [b, c] = false := by with_unfolding_all rfl) :
    JE X (.Compare a [op, op'] [b, c] pos) (tChain r r' ua ub uc) (dChain rd rd' ta tb tc) := by
  obtain ⟨o, s⟩ := ho
  obtain ⟨o', s'⟩ := ho'
  obtain ⟨pa, sa⟩ := ha
  obtain ⟨pb, sb⟩ := hb
  obtain ⟨pc, sc⟩ := hc
  exact ⟨pe_chain o o' pa pb pc hm, sim_chain s s' sa sb sc⟩
theorem jt_chain {op op' : CmpOp} {c : Expr} {tc : TDE} {rd rd' : D → D → (D → Prop) → Prop} (ho : OpD X (compareOp op) r rd) (ho' : OpD X (compareOp op') r' rd') (ha : JE X a ua ta) (hb : JE X b ub tb) (hc : JE X c uc tc) (hm : lastMarks [op, op'] [b, c] = false := by with_unfolding_all rfl) :
    JT X (.Compare a [op, op'] [b, c] pos) (tTest (tChain r r' ua ub uc)) (dTest (dChain rd rd' ta tb tc)) := by
  obtain ⟨o, s⟩ := ho
  obtain ⟨o', s'⟩ := ho'
  obtain ⟨pa, sa⟩ := ha
  obtain ⟨pb, sb⟩ := hb
  obtain ⟨pc, sc⟩ := hc
  exact ⟨pt_chain o o' pa pb pc hm, sim_test (sim_chain s s' sa sb sc)⟩
def isNoneD : D → Bool
  | .none => true
  | _ => false
def dIsN (t : TDE) : TDE := fun δ Q => t δ fun d δ' => Q (.bool (isNoneD d)) δ'
def dNotN (t : TDE) : TDE := fun δ Q => t δ fun d δ' => Q (.bool (!isNoneD d)) δ'
theorem isNone_dec {K : PySem.W.Frag} {H : Hp} {v : V} {d : D} (r : Dp K H v d) : decide (v = .non) = isNoneD d := by
  cases r <;> rfl
theorem sim_isN {K : PySem.W.Frag} {ua : TE} (sa : SimE K ua ta) : SimE K (tIsN ua) (dIsN ta) := fun R h k => sa R h fun v d δ1 H1 Hs1 R1 e1 r1 q => by
  rw [isNone_dec r1]
  exact k _ _ _ _ _ R1 e1 (.bl _) q
theorem sim_notN {K : PySem.W.Frag} {ua : TE} (sa : SimE K ua ta) : SimE K (tNotN ua) (dNotN ta) := fun R h k => sa R h fun v d δ1 H1 Hs1 R1 e1 r1 q => by
  rw [isNone_dec r1]
  exact k _ _ _ _ _ R1 e1 (.bl _) q
theorem je_isN {j p'} (ha : JE X a ua ta) : JE X (.Compare a [.Is] [.Constant .none j p'] pos) (tIsN ua) (dIsN ta) := by
  obtain ⟨pa, sa⟩ := ha
  exact ⟨pe_cmp (pc_isN pa), sim_isN sa⟩
theorem je_notN {j p'} (ha : JE X a ua ta) : JE X (.Compare a [.IsNot] [.Constant .none j p'] pos) (tNotN ua) (dNotN ta) := by
  obtain ⟨pa, sa⟩ := ha
  exact ⟨pe_cmp (pc_notN pa), sim_notN sa⟩
theorem sim_B {K : PySem.W.Frag} {ua : TE} (sa : SimE K ua ta) : SimT K (tB ua) (dTest ta) := by
  intro B H0 σ δ H Hs Q Q' R h k
  refine sa R h fun v d δ1 H1 Hs1 R1 e1 r1 ⟨c, e, q⟩ => ?_
  subst e
  cases r1
  exact ⟨c, rfl, k _ _ _ _ R1 e1 q⟩
theorem jt_isN {j p'} (ha : JE X a ua ta) : JT X (.Compare a [.Is] [.Constant .none j p'] pos) (tB (tIsN ua)) (dTest (dIsN ta)) := by
  obtain ⟨pa, sa⟩ := ha
  exact ⟨pt_cmp (pc_isN pa), sim_B (sim_isN sa)⟩
theorem jt_notN {j p'} (ha : JE X a ua ta) : JT X (.Compare a [.IsNot] [.Constant .none j p'] pos) (tB (tNotN ua)) (dTest (dNotN ta)) := by
  obtain ⟨pa, sa⟩ := ha
  exact ⟨pt_cmp (pc_notN pa), sim_B (sim_notN sa)⟩
theorem jt_val (ha : JE X e ue t) (he : ∀ whole, isTrue e X.env whole = (do let v ← whole; standAt e.pos; holding [v] (truthy v)) := by intro _; rfl) : JT X e (tB ue) (dTest t) := by
  obtain ⟨pa, sa⟩ := ha
  exact ⟨pt_val pa he, sim_B sa⟩
def truD : D → (Bool → Prop) → Prop
  | .none, Q => Q false
  | .bool b, Q => Q b
  | .int i, Q => Q (i != 0)
  | .str x, Q => x.length ≤ 100000 ∧ Q (x.length != 0)
  | .list xs, Q => Q (!xs.isEmpty)
  | .tuple xs, Q => Q (!xs.isEmpty)
  | .dict _, _ => False
def dTru (t : TDE) : TDB := fun δ Q => t δ fun d δ' => truD d fun c => Q c δ'
theorem jt_tru (ha : JE X e ue t) (he : ∀ whole, isTrue e X.env whole = (do let v ← whole; standAt e.pos; holding [v] (truthy v)) := by intro _; rfl) : JT X e (fun σ H Q => ue σ H fun x H' => ∃ k, TruV X.K x H' k ∧ Q k H') (dTru t) := by
  obtain ⟨pa, sa⟩ := ha
  refine ⟨pt_truth pa he, fun R h k => sa R h fun v d δ1 H1 Hs1 R1 e1 r1 q => ?_⟩
  cases r1 with
  | non => exact ⟨_, rfl, k _ _ _ _ R1 e1 q⟩
  | bl b => exact ⟨_, rfl, k _ _ _ _ R1 e1 q⟩
  | int i => exact ⟨_, rfl, k _ _ _ _ R1 e1 q⟩
  | str x => exact ⟨_, ⟨Nat.le_trans q.1 (by decide), rfl⟩, k _ _ _ _ R1 e1 (by
      have e : ((x.length : Int) != 0) = (x.length != 0) := by
        cases h : x.length with
        | zero => rfl
        | succ n => simp; omega
      rw [e]
      exact q.2)⟩
  | @lst a xs ds h1 h2 =>
    refine ⟨!ds.isEmpty, .inl ⟨xs, R1.ex.sl h1, ?_⟩, k _ _ _ _ R1 e1 q⟩
    cases h2 <;> rfl
  | @tup a xs ds h1 h2 =>
    refine ⟨!ds.isEmpty, .inr (.inl ⟨xs, R1.ex.st h1, ?_⟩), k _ _ _ _ R1 e1 q⟩
    cases h2 <;> rfl
def dAnd (t u : TDB) : TDB := fun δ Q => t δ fun c δ1 => if c = true then u δ1 Q else Q false δ1
def dOr (t u : TDB) : TDB := fun δ Q => t δ fun c δ1 => if c = true then Q true δ1 else u δ1 Q
def dNot (t : TDB) : TDB := fun δ Q => t δ fun c δ1 => Q (!c) δ1
theorem JW.jt {t : TDB} (h : JW X e vt t) : JT X e vt t := ⟨h.p.pt, h.s⟩
theorem jw_and1 {t : TDB} (h : JT X a vt t) : JW X (.BoolOp .And [a] pos) vt t := by
  obtain ⟨p, s⟩ := h
  exact ⟨pw_and1 p, s⟩
theorem jw_or1 {t : TDB} (h : JT X a vt t) : JW X (.BoolOp .Or [a] pos) vt t := by
  obtain ⟨p, s⟩ := h
  exact ⟨pw_or1 p, s⟩
theorem jw_and {rest : List Expr} {t u : TDB} (ha : JT X a vt t) (hb : JW X (.BoolOp .And (b :: rest) pos) vu u) : JW X (.BoolOp .And (a :: b :: rest) pos) (tAnd vt vu) (dAnd t u) := by
  obtain ⟨p, s⟩ := ha
  obtain ⟨p2, s2⟩ := hb
  refine ⟨pw_and p p2, fun R h k => s R h fun c δ1 H1 Hs1 R1 e1 q => ?_⟩
  cases c with
  | true =>
    rw [if_pos rfl] at q ⊢
    exact s2 R1 q fun b δ2 H2 Hs2 R2 e2 q2 => k _ _ _ _ R2 (e1.trans e2) q2
  | false =>
    rw [if_neg Bool.false_ne_true] at q ⊢
    exact k _ _ _ _ R1 e1 q
theorem jw_or {rest : List Expr} {t u : TDB} (ha : JT X a vt t) (hb : JW X (.BoolOp .Or (b :: rest) pos) vu u) : JW X (.BoolOp .Or (a :: b :: rest) pos) (tOr vt vu) (dOr t u) := by
  obtain ⟨p, s⟩ := ha
  obtain ⟨p2, s2⟩ := hb
  refine ⟨pw_or p p2, fun R h k => s R h fun c δ1 H1 Hs1 R1 e1 q => ?_⟩
  cases c with
  | true =>
    rw [if_pos rfl] at q ⊢
    exact k _ _ _ _ R1 e1 q
  | false =>
    rw [if_neg Bool.false_ne_true] at q ⊢
    exact s2 R1 q fun b δ2 H2 Hs2 R2 e2 q2 => k _ _ _ _ R2 (e1.trans e2) q2
theorem jt_not {t : TDB} (ha : JT X a vt t) : JT X (.UnaryOp .Not a pos) (tNot vt) (dNot t) := by
  obtain ⟨p, s⟩ := ha
  exact ⟨pt_not p, fun R h k => s R h fun c δ1 H1 Hs1 R1 e1 q => k _ _ _ _ R1 e1 q⟩
def dAndV (t u : TDE) : TDE := fun δ Q => t δ fun d δ1 => ∃ c, d = .bool c ∧ if c = true then u δ1 Q else Q (.bool false) δ1
def dOrV (t u : TDE) : TDE := fun δ Q => t δ fun d δ1 => ∃ c, d = .bool c ∧ if c = true then Q (.bool true) δ1 else u δ1 Q
def dNotV (t : TDE) : TDE := fun δ Q => t δ fun d δ1 => ∃ c, d = .bool c ∧ Q (.bool (!c)) δ1
theorem je_one {op} (h : JE X a ua t) : JE X (.BoolOp op [a] pos) ua t := by
  obtain ⟨p, s⟩ := h
  exact ⟨pe_one p, s⟩
theorem je_and {rest : List Expr} (ha : JE X a ua ta) (hb : JE X (.BoolOp .And (b :: rest) pos) ub tb) : JE X (.BoolOp .And (a :: b :: rest) pos) (tAndV ua ub) (dAndV ta tb) := by
  obtain ⟨p, s⟩ := ha
  obtain ⟨p2, s2⟩ := hb
  refine ⟨pe_and p p2, fun R h k => s R h fun v d δ1 H1 Hs1 R1 e1 r1 ⟨c, e, q⟩ => ?_⟩
  subst e
  cases r1
  refine ⟨c, rfl, ?_⟩
  cases c with
  | true =>
    rw [if_pos rfl] at q ⊢
    exact s2 R1 q fun v d δ2 H2 Hs2 R2 e2 r2 q2 => k _ _ _ _ _ R2 (e1.trans e2) r2 q2
  | false =>
    rw [if_neg Bool.false_ne_true] at q ⊢
    exact k _ _ _ _ _ R1 e1 (.bl false) q
theorem je_or {rest : List Expr} (ha : JE X a ua ta) (hb : JE X (.BoolOp .Or (b :: rest) pos) ub tb) : JE X (.BoolOp .Or (a :: b :: rest) pos) (tOrV ua ub) (dOrV ta tb) := by
  obtain ⟨p, s⟩ := ha
  obtain ⟨p2, s2⟩ := hb
  refine ⟨pe_or p p2, fun R h k => s R h fun v d δ1 H1 Hs1 R1 e1 r1 ⟨c, e, q⟩ => ?_⟩
  subst e
  cases r1
  refine ⟨c, rfl, ?_⟩
  cases c with
  | true =>
    rw [if_pos rfl] at q ⊢
    exact k _ _ _ _ _ R1 e1 (.bl true) q
  | false =>
    rw [if_neg Bool.false_ne_true] at q ⊢
    exact s2 R1 q fun v d δ2 H2 Hs2 R2 e2 r2 q2 => k _ _ _ _ _ R2 (e1.trans e2) r2 q2
theorem je_not (ha : JE X a ua ta) : JE X (.UnaryOp .Not a pos) (tNotV ua) (dNotV ta) := by
  obtain ⟨p, s⟩ := ha
  refine ⟨pe_not p, fun R h k => s R h fun v d δ1 H1 Hs1 R1 e1 r1 ⟨c, e, q⟩ => ?_⟩
  subst e
  cases r1
  exact ⟨c, rfl, k _ _ _ _ _ R1 e1 (.bl _) q⟩
def dIf (t : TDB) (u w : TDE) : TDE := fun δ Q => t δ fun c δ1 => if c = true then u δ1 Q else w δ1 Q
theorem je_ifExp {c : Expr} {tc : TDB} (hc : JT X c vt tc) (ha : JE X a ua ta) (hb : JE X b ub tb) : JE X (.IfExp c a b pos) (tIf vt ua ub) (dIf tc ta tb) := by
  obtain ⟨p, s⟩ := hc
  obtain ⟨p2, s2⟩ := ha
  obtain ⟨p3, s3⟩ := hb
  refine ⟨pe_ifExp p p2 p3, fun R h k => s R h fun c δ1 H1 Hs1 R1 e1 q => ?_⟩
  cases c with
  | true =>
    rw [if_pos rfl] at q ⊢
    exact s2 R1 q fun v d δ2 H2 Hs2 R2 e2 r2 q2 => k _ _ _ _ _ R2 (e1.trans e2) r2 q2
  | false =>
    rw [if_neg Bool.false_ne_true] at q ⊢
    exact s3 R1 q fun v d δ2 H2 Hs2 R2 e2 r2 q2 => k _ _ _ _ _ R2 (e1.trans e2) r2 q2
end
end DL
namespace DL
open PySem PySem.Spec PyProof.Rows L2
theorem dp_plain : ∀ {K : PySem.W.Frag} {H : Hp} {d : D} {v : V}, Dp K H v d → d.plain = true := by
  intro K H d v
  refine PyData.rec (motive_1 := fun d => ∀ v, Dp K H v d → d.plain = true) (motive_2 := fun ds => ∀ vs, DpAll K H vs ds → PyData.plainAll ds = true) (motive_3 := fun _ => True) (motive_4 := fun _ => True)
    (fun v r => rfl) (fun b v r => rfl) (fun i v r => rfl) (fun s v r => rfl) (fun xs ih v r => ?_) (fun xs ih v r => ?_) (fun _ _ v r => ?_) (fun vs r => rfl) (fun d ds h1 h2 vs r => ?_) trivial (fun _ _ _ _ => trivial) (fun _ _ _ _ => trivial) d v
  · cases r with
    | lst h a =>
      rw [PyData.plain]
      exact ih _ a
  · cases r with
    | tup h a =>
      rw [PyData.plain]
      exact ih _ a
  · cases r
  · cases r with
    | cons a b =>
      rw [PyData.plainAll, h1 _ a, h2 _ b]
      rfl
section
variable {X : Cx}
def rCatS (K : PySem.W.Frag) : R2 := fun x y H Q => ∃ l b xs zs, x = .ref l ∧ y = .ref b ∧ SqL K H l xs ∧ SqL K H b zs ∧ xs.length + zs.length ≤ sizeLine ∧ ∀ p, H p = none → Q (.ref p) (upd H p (.lst (xs ++ zs)))
theorem op_catS : OpR X (binaryOp .Add) (rCatS X.K) := by
  intro pins s σ H x y v u Q I rx ry h
  obtain ⟨l, b, xs, zs, rfl, rfl, hH, hB, hz, q⟩ := h
  cases rx
  cases ry
  obtain ⟨its, r, p1, z1⟩ := I.list hH
  obtain ⟨its2, r2, p2, z2⟩ := I.list hB
  obtain ⟨⟨cls, dd, data, sl⟩, ho, hc, n, hd⟩ := p1.isList
  obtain ⟨⟨cls2, dd2, data2, sl2⟩, ho2, hc2, n2, hd2⟩ := p2.isList
  simp only at hc hd hc2 hd2
  subst hc hd hc2 hd2
  have e : its.toArray ++ its2.toArray = (its ++ its2).toArray := by simp
  refine concat_meets ⟨_, ho, rfl⟩ ⟨_, ho2, rfl⟩ noFill_list_add seq_list_add PySem.F.slot_list_add PySem.F.entry_list_add (PySem.F.args_list_add_2 _ _) (list_addW l b its.toArray its2.toArray n n2 dd dd2 sl sl2 (by rw [List.size_toArray, List.size_toArray, ← r.length, ← r2.length]; exact hz)) ⟨ho, ho2, ?_⟩
  rw [e]
  exact ⟨.ref _, _, I.lnew (t' := s.toks) (r.append r2) (by rw [List.length_append]; omega), rfl, q _ I.fresh⟩
def addD : D → D → (D → Prop) → Prop
  | .int i, .int j, Q => Q (.int (i + j))
  | .str x, .str y, Q => x.length + y.length ≤ 100000 ∧ Q (.str (x ++ y))
  | .list xs, .list ys, Q => xs.length + ys.length ≤ 100000 ∧ Q (.list (xs ++ ys))
  | .tuple xs, .tuple ys, Q => xs.length + ys.length ≤ 100000 ∧ Q (.tuple (xs ++ ys))
  | _, _, _ => False
theorem sz5 {n : Nat} (h : n ≤ 100000) : n ≤ sizeLine := Nat.le_trans h (by decide)
def rOr (r r' : R2) : R2 := fun x y H Q => r x y H Q ∨ r' x y H Q
def rStrAdd : R2 := fun x y H Q => ∃ i j, x = .str i ∧ y = .str j ∧ i.length + j.length ≤ sizeLine ∧ Q (.str (i ++ j)) H
def rAddU (K : PySem.W.Frag) : R2 := rOr (rI0 fun i j => .int (i + j)) (rOr rStrAdd (rOr (rCatS K) (rCatA K)))
theorem do_add : OpD X (binaryOp .Add) (rAddU X.K) addD := by
  refine ⟨op_add.or (op_add_str.or (op_catS.or op_catA)), ?_⟩
  intro Hs H x y dx dy Q Q' e rx ry h k
  cases rx with
  | int i =>
    cases ry with
    | int j => exact .inl ⟨i, j, rfl, rfl, k _ _ _ _ (PExt.refl e) (.int _) h⟩
    | _ => exact h.elim
  | str i =>
    cases ry with
    | str j => exact .inr (.inl ⟨i, j, rfl, rfl, sz5 h.1, k _ _ _ _ (PExt.refl e) (.str _) h.2⟩)
    | _ => exact h.elim
  | @lst a xs ds h1 a1 =>
    cases ry with
    | @lst b ys es h2 a2 =>
      refine .inr (.inr (.inl ⟨a, b, xs, ys, rfl, rfl, e.sl h1, e.sl h2, by rw [dpAll_len a1, dpAll_len a2]; exact sz5 h.1, fun p hp => ?_⟩))
      have x := PExt.new e (.lst (xs ++ ys)) hp
      exact k _ _ _ _ x (.lst (.inl (.inl upd_same)) (dpAll_mono x.s (dpAll_app a1 a2))) h.2
    | _ => exact h.elim
  | @tup a xs ds h1 a1 =>
    cases ry with
    | @tup b ys es h2 a2 =>
      refine .inr (.inr (.inr ⟨a, b, xs, ys, rfl, rfl, e.st h1, e.st h2, by rw [dpAll_len a1, dpAll_len a2]; exact sz5 h.1, fun hx => ?_, fun hx hy => ?_, fun hx hy p hp => ?_⟩))
      · subst hx
        cases a1
        exact k _ _ _ _ (PExt.refl e) (.tup h2 a2) h.2
      · subst hy
        cases a2
        refine k _ _ _ _ (PExt.refl e) (.tup h1 a1) ?_
        have := h.2
        rw [List.append_nil] at this
        exact this
      · have x := PExt.new e (.tup (xs ++ ys)) hp
        exact k _ _ _ _ x (.tup (.inl (.inl upd_same)) (dpAll_mono x.s (dpAll_app a1 a2))) h.2
    | _ => exact h.elim
  | _ => exact h.elim
def intD (C : Int → Int → Prop) (g : Int → Int → Int) : D → D → (D → Prop) → Prop
  | .int i, .int j, Q => C i j ∧ Q (.int (g i j))
  | _, _, _ => False
theorem do_int {f : Value → Value → Sem Value} {C C' : Int → Int → Prop} {g : Int → Int → Int} (ho : OpR X f (rI C' fun i j => .int (g i j))) (hc : ∀ i j, C i j → C' i j) : OpD X f (rI C' fun i j => .int (g i j)) (intD C g) := by
  refine ⟨ho, ?_⟩
  intro Hs H x y dx dy Q Q' e rx ry h k
  cases rx with
  | int i =>
    cases ry with
    | int j => exact ⟨i, j, rfl, rfl, hc _ _ h.1, k _ _ _ _ (PExt.refl e) (.int _) h.2⟩
    | _ => exact h.elim
  | _ => exact h.elim
def subD : D → D → (D → Prop) → Prop
  | .int i, .int j, Q => Q (.int (i - j))
  | _, _, _ => False
theorem do_sub : OpD X (binaryOp .Sub) (rI0 fun i j => .int (i - j)) subD := by
  refine ⟨op_sub, ?_⟩
  intro Hs H x y dx dy Q Q' e rx ry h k
  cases rx with
  | int i =>
    cases ry with
    | int j => exact ⟨i, j, rfl, rfl, k _ _ _ _ (PExt.refl e) (.int _) h⟩
    | _ => exact h.elim
  | _ => exact h.elim
def SmallI (i : Int) : Prop := -(2 ^ 64) < i ∧ i < 2 ^ 64
def mulD : D → D → (D → Prop) → Prop := intD (fun i j => SmallI i ∨ SmallI j) (fun i j => i * j)
theorem do_mul : OpD X (binaryOp .Mult) (rI CMul fun i j => .int (i * j)) mulD := do_int op_mul fun _ _ h => h
def modD : D → D → (D → Prop) → Prop := intD (fun _ j => 0 < j) (fun i j => i % j)
theorem do_mod : OpD X (binaryOp .Mod) (rI (fun _ j => 0 < j) fun i j => .int (i % j)) modD := do_int op_mod fun _ _ h => h
def fdivD : D → D → (D → Prop) → Prop := intD (fun _ j => 0 < j ∧ j < 1073741824) (fun i j => i / j)
theorem do_fdiv : OpD X (binaryOp .FloorDiv) (rI CDiv fun i j => .int (i / j)) fdivD := do_int op_fdiv fun _ _ h => h
def powD : D → D → (D → Prop) → Prop := intD (fun i j => (0 ≤ j ∧ j ≤ 1000) ∧ SmallI i) (fun i j => i ^ j.toNat)
theorem do_pow : OpD X (binaryOp .Pow) (rI CPow fun i j => .int (i ^ j.toNat)) powD := do_int op_pow fun _ _ h => ⟨h.1.1, by omega, by have := h.2; unfold SmallI at this; omega⟩
theorem room200 {A : Around} {k : Nat} (h : A.units + 200 < cLine) (hk : k ≤ 150) : A.units + k < cLine := by omega
def eqD (a b : D) (Q : D → Prop) : Prop := min a.depth b.depth ≤ 150 ∧ Q (.bool (PyData.eqv a b))
def neD (a b : D) (Q : D → Prop) : Prop := min a.depth b.depth ≤ 150 ∧ Q (.bool (!PyData.eqv a b))
def rEqP (K : PySem.W.Frag) : R2 := fun x y H Q => ∃ d e, Dp K H x d ∧ Dp K H y e ∧ min d.depth e.depth ≤ 150 ∧ Q (.bl (PyData.eqv d e)) H
def rNeP (K : PySem.W.Frag) : R2 := fun x y H Q => ∃ d e, Dp K H x d ∧ Dp K H y e ∧ min d.depth e.depth ≤ 150 ∧ Q (.bl (!PyData.eqv d e)) H
theorem op_eqP (hu : X.A.units + 200 < cLine) : OpR X (compareOp .Eq) (rEqP X.K) := by
  intro pins s σ H x y v u Q I rx ry h
  obtain ⟨d, e, hd, he, hm, q⟩ := h
  obtain ⟨as, r1⟩ := Dp.reads I d x v hd rx
  obtain ⟨bs, r2⟩ := Dp.reads I e y u he ry
  exact SeqAt.eq_plain r1 r2 (dp_plain hd) (dp_plain he) (room200 hu hm) ⟨.bl _, H, I, rfl, q⟩
theorem op_neP (hu : X.A.units + 200 < cLine) : OpR X (compareOp .NotEq) (rNeP X.K) := by
  intro pins s σ H x y v u Q I rx ry h
  obtain ⟨d, e, hd, he, hm, q⟩ := h
  obtain ⟨as, r1⟩ := Dp.reads I d x v hd rx
  obtain ⟨bs, r2⟩ := Dp.reads I e y u he ry
  exact SeqAt.ne_plain r1 r2 (dp_plain hd) (dp_plain he) (room200 hu hm) ⟨.bl _, H, I, rfl, q⟩
theorem do_eq (hu : X.A.units + 200 < cLine) : OpD X (compareOp .Eq) (rEqP X.K) eqD := ⟨op_eqP hu, fun e rx ry h k => ⟨_, _, dp_mono e rx, dp_mono e ry, h.1, k _ _ _ _ (PExt.refl e) (.bl _) h.2⟩⟩
theorem do_ne (hu : X.A.units + 200 < cLine) : OpD X (compareOp .NotEq) (rNeP X.K) neD := ⟨op_neP hu, fun e rx ry h k => ⟨_, _, dp_mono e rx, dp_mono e ry, h.1, k _ _ _ _ (PExt.refl e) (.bl _) h.2⟩⟩
def ordD (g : D → D → Bool) (a b : D) (Q : D → Prop) : Prop := PySem.W.alike a b = true ∧ isNoneD a = false ∧ min a.depth b.depth ≤ 150 ∧ Q (.bool (g a b))
def rOrd (K : PySem.W.Frag) (g : D → D → Bool) : R2 := fun x y H Q => ∃ d e, Dp K H x d ∧ Dp K H y e ∧ PySem.W.alike d e = true ∧ isNoneD d = false ∧ min d.depth e.depth ≤ 150 ∧ Q (.bl (g d e)) H
theorem nn {d : D} (h : isNoneD d = false) : d ≠ .none := fun z => by
  subst z
  cases h
theorem do_ord {op : CmpOp} {g : D → D → Bool} (hu : X.A.units + 200 < cLine) (rule : ∀ (s : Shared) (a b : Value) (da db : D) (as bs : List Addr) (Q : Value → Shared → Prop), Reads s.heap a da as → Reads s.heap b db bs → PySem.W.alike da db = true → da ≠ .none → X.A.units + min da.depth db.depth < cLine → Q (.bool (g da db)) s → wpAny (model X.prog X.w) X.A (compareOp op a b) Q X.xe s) :
    OpD X (compareOp op) (rOrd X.K g) (ordD g) := by
  refine ⟨?_, fun e rx ry h k => ⟨_, _, dp_mono e rx, dp_mono e ry, h.1, h.2.1, h.2.2.1, k _ _ _ _ (PExt.refl e) (.bl _) h.2.2.2⟩⟩
  intro pins s σ H x y v u Q I rx ry h
  obtain ⟨d, e, hd, he, hl, hn, hm, q⟩ := h
  obtain ⟨as, r1⟩ := Dp.reads I d x v hd rx
  obtain ⟨bs, r2⟩ := Dp.reads I e y u he ry
  exact rule _ _ _ _ _ _ _ _ r1 r2 hl (nn hn) (room200 hu hm) ⟨.bl _, H, I, rfl, q⟩
abbrev ltD := ordD fun a b => PySem.W.dataLt a b
abbrev gtD := ordD fun a b => PySem.W.dataLt b a
abbrev leD := ordD fun a b => !PySem.W.dataLt b a
abbrev geD := ordD fun a b => !PySem.W.dataLt a b
theorem do_lt (hu : X.A.units + 200 < cLine) : OpD X (compareOp .Lt) (rOrd X.K (fun a b => PySem.W.dataLt a b)) ltD := do_ord hu fun _ _ _ _ _ _ _ _ h1 h2 h3 h4 h5 h6 => PySem.W.lt_data h1 h2 h3 h4 h5 h6
theorem do_gt (hu : X.A.units + 200 < cLine) : OpD X (compareOp .Gt) (rOrd X.K (fun a b => PySem.W.dataLt b a)) gtD := do_ord hu fun _ _ _ _ _ _ _ _ h1 h2 h3 h4 h5 h6 => PySem.W.gt_data h1 h2 h3 h4 h5 h6
theorem do_le (hu : X.A.units + 200 < cLine) : OpD X (compareOp .LtE) (rOrd X.K (fun a b => !PySem.W.dataLt b a)) leD := do_ord hu fun _ _ _ _ _ _ _ _ h1 h2 h3 h4 h5 h6 => PySem.W.le_data h1 h2 h3 h4 h5 h6
theorem do_ge (hu : X.A.units + 200 < cLine) : OpD X (compareOp .GtE) (rOrd X.K (fun a b => !PySem.W.dataLt a b)) geD := do_ord hu fun _ _ _ _ _ _ _ _ h1 h2 h3 h4 h5 h6 => PySem.W.ge_data h1 h2 h3 h4 h5 h6
end
end DL
namespace DL
open PySem PySem.Spec PyProof.Rows L2
section
variable {X : Cx} {e a b : Expr} {es : List Expr} {pos : Pos} {t ta tb : TDE} {ue ua ub : TE} {us : TA} {ul uh : TO} {pins : List (Addr × Obj)} {σ : L2.St} {H : Hp} {s : Shared}
theorem dpAll_at {K : PySem.W.Frag} {H : Hp} {vs : List V} {ds : List D} {i : Int} {d : D} (h : DpAll K H vs ds) (e : atI ds i = some d) : ∃ v, atI vs i = some v ∧ Dp K H v d := by
  unfold atI at e ⊢
  rw [dpAll_len h]
  cases h1 : ixN ds.length i with
  | none =>
    rw [h1] at e
    cases e
  | some j =>
    rw [h1] at e
    obtain ⟨v, e1, r⟩ := dpAll_get h (show ds[j]? = some d from e)
    exact ⟨v, e1, r⟩
theorem atI_pos {α : Type} {xs : List α} {i : Int} (h : 0 ≤ i) : atI xs i = xs[i.toNat]? := by
  unfold atI ixN
  rw [if_pos h]
  by_cases h1 : i < xs.length
  · rw [if_pos h1]
    rfl
  · rw [if_neg h1]
    have : xs.length ≤ i.toNat := by omega
    rw [List.getElem?_eq_none this]
    rfl
theorem atI_cast {α : Type} {xs : List α} (n : Nat) : atI xs (n : Int) = xs[n]? := by
  rw [atI_pos (by omega)]
  simp
def ixD : D → D → (D → Prop) → Prop
  | .list xs, .int i, Q => ∃ d, atI xs i = some d ∧ Q d
  | .tuple xs, .int i, Q => ∃ d, atI xs i = some d ∧ Q d
  | .str z, .int i, Q => z.length ≤ 100000 ∧ ∃ c, atI z.cps.toList i = some c ∧ Q (.str ⟨#[c]⟩)
  | _, _, _ => False
theorem sim_ix {K : PySem.W.Frag} : SimR K (fun x y H Q => rIxL K x y H Q ∨ (rIxT K x y H Q ∨ rIxS x y H Q)) ixD := by
  intro Hs H x y dx dy Q Q' e rx ry h k
  cases rx with
  | str z =>
    cases ry with
    | int i =>
      obtain ⟨z1, c, hc, q⟩ := h
      exact .inr (.inr ⟨z, i, c, rfl, rfl, sz5 z1, hc, k _ _ _ _ (PExt.refl e) (.str _) q⟩)
    | _ => exact h.elim
  | @lst p xs ds h1 a1 =>
    cases ry with
    | int i =>
      obtain ⟨d, hd, q⟩ := h
      obtain ⟨v, e1, r⟩ := dpAll_at a1 hd
      exact .inl ⟨p, xs, i, v, rfl, rfl, e.sl h1, e1, k _ _ _ _ (PExt.refl e) r q⟩
    | _ => exact h.elim
  | @tup p xs ds h1 a1 =>
    cases ry with
    | int i =>
      obtain ⟨d, hd, q⟩ := h
      obtain ⟨v, e1, r⟩ := dpAll_at a1 hd
      exact .inr (.inl ⟨p, xs, i, v, rfl, rfl, e.st h1, e1, k _ _ _ _ (PExt.refl e) r q⟩)
    | _ => exact h.elim
  | _ => exact h.elim
def rIxU (K : PySem.W.Frag) : R2 := fun x y H Q => rIxL K x y H Q ∨ (rIxT K x y H Q ∨ rIxS x y H Q)
theorem je_ix (ha : JE X a ua ta) (hb : JE X b ub tb) (hs : PlainIx b := by exact fun _ _ => rfl) : JE X (.Subscript a b pos) (tOp (rIxU X.K) ua ub) (dOp ixD ta tb) := by
  obtain ⟨pa, sa⟩ := ha
  obtain ⟨pb, sb⟩ := hb
  exact ⟨pe_ix ix_seq pa pb hs, sim_op sim_ix sa sb⟩
abbrev TDO := Dl → (Option Int → Dl → Prop) → Prop
def SimO (K : PySem.W.Frag) (te : TO) (t : TDO) : Prop := ∀ {B H0 : Hp} {σ : L2.St} {δ : Dl} {H Hs : Hp} {Q : Option Int → Dl → Prop} {Q' : Option Int → Hp → Prop}, Rep K B H0 σ δ H Hs → t δ Q →
  (∀ o δ' H' Hs', Rep K B H0 σ δ' H' Hs' → Ex Hs Hs' → Q o δ' → Q' o H') → te σ H Q'
structure JO (X : Cx) (e : Option Expr) (u : TO) (t : TDO) : Prop where
  p : PO X e u
  s : SimO X.K u t
def dNoPart : TDO := fun δ Q => Q none δ
def dPart (t : TDE) : TDO := fun δ Q => t δ fun d δ' => ∃ i, d = .int i ∧ Q (some i) δ'
theorem jo_none : JO X none tNoPart dNoPart := ⟨po_none, fun R h k => k _ _ _ _ R (Ex.refl _) h⟩
theorem jo_some (h : JE X e ue t) : JO X (some e) (tPart ue) (dPart t) := by
  obtain ⟨p, s⟩ := h
  refine ⟨po_some p, fun R h k => s R h fun v d δ1 H1 Hs1 R1 e1 r1 ⟨i, e, q⟩ => ?_⟩
  subst e
  cases r1
  exact ⟨i, rfl, k _ _ _ _ R1 e1 q⟩
def cutA {α : Type} (xs : List α) (lo hi : Option Int) : List α := (xs.drop (HT.sIx xs.length 0 lo)).take (HT.sIx xs.length xs.length hi - HT.sIx xs.length 0 lo)
theorem cutA_V (xs : List V) (lo hi : Option Int) : cutV xs lo hi = cutA xs lo hi := rfl
theorem dpAll_cut {K : PySem.W.Frag} {H : Hp} {vs : List V} {ds : List D} (h : DpAll K H vs ds) (lo hi : Option Int) : DpAll K H (cutV vs lo hi) (cutA ds lo hi) := by
  rw [cutA_V]
  unfold cutA
  rw [dpAll_len h]
  exact dpAll_take _ (dpAll_drop _ h)
def dSlN (t : TDE) (lo hi : TDO) : TDL := fun δ Q => t δ fun d δ1 => lo δ1 fun l δ2 => hi δ2 fun u δ3 => ∃ xs, d = .list xs ∧ Q (cutA xs l u) δ3
theorem jn_slice {lo hi : Option Expr} {tl th : TDO} {p2 : Pos} (he : JE X e ue t) (hl : JO X lo ul tl) (hh : JO X hi uh th) : JN X (.Subscript e (.Slice lo hi none p2) pos) (tSl (rSlL X.K) ue ul uh) (dSlN t tl th) := by
  obtain ⟨p, s⟩ := he
  obtain ⟨pl, sl⟩ := hl
  obtain ⟨ph, sh⟩ := hh
  refine ⟨pe_slice sl_list p pl ph, fun R h k => s R h fun v d δ1 H1 Hs1 R1 e1 r1 h1 => sl R1 h1 fun o δ2 H2 Hs2 R2 e2 h2 => sh R2 h2 fun o' δ3 H3 Hs3 R3 e3 ⟨xs, e, q⟩ => ?_⟩
  subst e
  cases r1 with
  | @lst a vs ds h1 a1 =>
    have e4 := e2.trans e3
    refine ⟨a, vs, rfl, R3.ex.sl (e4.sl h1), fun p hp => ?_⟩
    exact k _ _ _ _ _ _ (R3.hide hp) (R3.base.none hp) (R3.frz.none (R3.ex.none hp)) (e1.trans e4) (dpAll_cut (dpAll_mono e4 a1) o o') q
def slD : D → Option Int → Option Int → (D → Prop) → Prop
  | .str z, l, u, Q => z.length ≤ 100000 ∧ Q (.str (cutS z l u))
  | .list xs, l, u, Q => Q (.list (cutA xs l u))
  | .tuple xs, l, u, Q => Q (.tuple (cutA xs l u))
  | _, _, _, _ => False
def dSl (t : TDE) (lo hi : TDO) : TDE := fun δ Q => t δ fun d δ1 => lo δ1 fun l δ2 => hi δ2 fun u δ3 => slD d l u fun d' => Q d' δ3
theorem sIx_le2 (n : Nat) (o : Option Int) : HT.sIx n n o ≤ n := HT.sIx_le _ _ (Nat.le_refl _) _
theorem cut_whole {α : Type} {xs : List α} {lo hi : Option Int} (h : HT.sIx xs.length 0 lo = 0 ∧ HT.sIx xs.length xs.length hi = xs.length) : cutA xs lo hi = xs := by
  unfold cutA
  rw [h.1, h.2, Nat.sub_zero, List.drop_zero, List.take_length]
def rSlU (K : PySem.W.Frag) : V → Option Int → Option Int → Hp → VK → Prop := fun x lo hi H Q => rSlL K x lo hi H Q ∨ (rSlA K x lo hi H Q ∨ rSlS x lo hi H Q)
theorem je_slice {lo hi : Option Expr} {tl th : TDO} {p2 : Pos} (he : JE X e ue t) (hl : JO X lo ul tl) (hh : JO X hi uh th) : JE X (.Subscript e (.Slice lo hi none p2) pos) (tSl (rSlU X.K) ue ul uh) (dSl t tl th) := by
  obtain ⟨p, s⟩ := he
  obtain ⟨pl, sl⟩ := hl
  obtain ⟨ph, sh⟩ := hh
  refine ⟨pe_slice (sl_list.or (sl_tupA.or sl_str)) p pl ph, ?_⟩
  intro B H0 σ δ H Hs Q Q' R h k
  refine s R h fun v d δ1 H1 Hs1 R1 e1 r1 h1 => sl R1 h1 fun o δ2 H2 Hs2 R2 e2 h2 => sh R2 h2 fun o' δ3 H3 Hs3 R3 e3 q => ?_
  have e4 := e2.trans e3
  cases r1 with
  | str z => exact .inr (.inr ⟨z, rfl, sz5 q.1, k _ _ _ _ _ R3 (e1.trans e4) (.str _) q.2⟩)
  | @lst a vs ds hs1 a1 =>
    refine .inl ⟨a, vs, rfl, R3.ex.sl (e4.sl hs1), fun p hp => ?_⟩
    have x := PExt.new R3.ex (.lst (cutV vs o o')) hp
    exact k _ _ _ _ _ (R3.ext x) ((e1.trans e4).trans x.s) (.lst (.inl (.inl upd_same)) (dpAll_mono x.s (dpAll_cut (dpAll_mono e4 a1) o o'))) q
  | @tup a vs ds hs1 a1 =>
    refine .inr (.inl ⟨a, vs, rfl, R3.ex.st (e4.st hs1), fun hw => ?_, fun hw p hp => ?_⟩)
    · rw [dpAll_len a1] at hw
      refine k _ _ _ _ _ R3 (e1.trans e4) (.tup (e4.st hs1) (dpAll_mono e4 a1)) ?_
      have q' : Q (PyData.tuple (cutA ds o o')) δ3 := q
      rw [cut_whole hw] at q'
      exact q'
    · have x := PExt.new R3.ex (.tup (cutV vs o o')) hp
      exact k _ _ _ _ _ (R3.ext x) ((e1.trans e4).trans x.s) (.tup (.inl (.inl upd_same)) (dpAll_mono x.s (dpAll_cut (dpAll_mono e4 a1) o o'))) q
  | _ => exact q.elim
def dRev (t : TDE) : TDL := fun δ Q => t δ fun d δ1 => ∃ xs, d = .list xs ∧ Q xs.reverse δ1
theorem jn_rev {k : Nat} {p1 p2 p3 : Pos} (he : JE X e ue t) : JN X (.Subscript e (.Slice none none (some (.UnaryOp .USub (.Constant (.int 1) k p1) p2)) p3) pos) (tRevL X.K ue) (dRev t) := by
  obtain ⟨p, s⟩ := he
  refine ⟨pe_revL p, fun R h k => s R h fun v d δ1 H1 Hs1 R1 e1 r1 ⟨xs, e, q⟩ => ?_⟩
  subst e
  cases r1 with
  | @lst a vs ds h1 a1 => exact ⟨a, vs, rfl, R1.ex.sl h1, fun p hp => k _ _ _ _ _ _ (R1.hide hp) (R1.base.none hp) (R1.frz.none (R1.ex.none hp)) e1 (dpAll_rev a1) q⟩
def SimC (K : PySem.W.Frag) (r : List V → Hp → VK → Prop) (rd : List D → (D → Prop) → Prop) : Prop := ∀ {Hs H : Hp} {vs : List V} {ds : List D} {Q : D → Prop} {Q' : VK}, Ex Hs H → DpAll K Hs vs ds → rd ds Q →
  (∀ v d Hs' H', PExt Hs H Hs' H' → Dp K Hs' v d → Q d → Q' v H') → r vs H Q'
def SimCN (K : PySem.W.Frag) (r : List V → Hp → VK → Prop) (rd : List D → (List D → Prop) → Prop) : Prop := ∀ {Hs H : Hp} {vs : List V} {ds : List D} {Q : List D → Prop} {Q' : VK}, Ex Hs H → DpAll K Hs vs ds → rd ds Q →
  (∀ p ws xs, H p = none → DpAll K Hs ws xs → Q xs → Q' (.ref p) (upd H p (.lst ws))) → r vs H Q'
abbrev RCl := List V → Hp → VK → Prop
structure CallD (X : Cx) (f : Value) (r : RCl) (rd : List D → (D → Prop) → Prop) : Prop where
  p : CallR X f r
  s : SimC X.K r rd
structure CallN (X : Cx) (f : Value) (r : RCl) (rd : List D → (List D → Prop) → Prop) : Prop where
  p : CallR X f r
  s : SimCN X.K r rd
def dCall (rd : List D → (D → Prop) → Prop) (t : TDL) : TDE := fun δ Q => t δ fun ds δ' => rd ds fun d => Q d δ'
def dCallN (rd : List D → (List D → Prop) → Prop) (t : TDL) : TDL := fun δ Q => t δ fun ds δ' => rd ds fun xs => Q xs δ'
theorem sim_call {K : PySem.W.Frag} {r : List V → Hp → VK → Prop} {rd : List D → (D → Prop) → Prop} {u : TA} {t : TDL} (sr : SimC K r rd) (s : SimA K u t) : SimE K (tCB r u) (dCall rd t) := fun R h k =>
  s R h fun vs ds δ1 H1 Hs1 R1 e1 r1 h1 => sr R1.ex r1 h1 fun v d Hs' H' x r q => k _ _ _ _ _ (R1.ext x) (e1.trans x.s) r q
theorem sim_callN {K : PySem.W.Frag} {r : List V → Hp → VK → Prop} {rd : List D → (List D → Prop) → Prop} {u : TA} {t : TDL} (sr : SimCN K r rd) (s : SimA K u t) : SimN K (tCB r u) (dCallN rd t) := fun R h k =>
  s R h fun vs ds δ1 H1 Hs1 R1 e1 r1 h1 => sr R1.ex r1 h1 fun p ws xs hp r q => k _ _ _ _ _ _ (R1.hide hp) (R1.base.none hp) (R1.frz.none (R1.ex.none hp)) e1 r q
section
variable {x : Str} {id T : String} {p : Pos} {u : TDL} {r : RCl}
theorem je_callB {rd : List D → (D → Prop) → Prop} (hc : CallD X (.builtin id) r rd) (hg : Gl X x) (hm : X.mg x = none) (hv : bootBuiltins x = some (.builtin id)) (ha : JA X (e :: es) us u) (hn : x ≠ "__name__" := by decide) (hdb : (x == ("__debug__" : Str)) = false := by decide)
    (he : starEach (e :: es) X.env = (false, eval e X.env) :: starEach es X.env := by rfl) (hpl : (backTo pos (starEach es X.env)).any (·.1) = false := by rfl) : JE X (.Call (.Name x p) (e :: es) [] pos) (tCB r us) (dCall rd u) := by
  obtain ⟨cr, sr⟩ := hc
  obtain ⟨pw, sw⟩ := ha
  exact ⟨pe_callB cr hg hm hv pw hn hdb he hpl, sim_call sr sw⟩
theorem je_callTy {rd : List D → (D → Prop) → Prop} (hc : CallD X (.type T) r rd) (hg : Gl X x) (hm : X.mg x = none) (hv : bootBuiltins x = some (.type T)) (ha : JA X (e :: es) us u) (hn : x ≠ "__name__" := by decide) (hdb : (x == ("__debug__" : Str)) = false := by decide)
    (he : starEach (e :: es) X.env = (false, eval e X.env) :: starEach es X.env := by rfl) (hpl : (backTo pos (starEach es X.env)).any (·.1) = false := by rfl) : JE X (.Call (.Name x p) (e :: es) [] pos) (tCB r us) (dCall rd u) := by
  obtain ⟨cr, sr⟩ := hc
  obtain ⟨pw, sw⟩ := ha
  exact ⟨pe_callTy cr hg hm hv pw hn hdb he hpl, sim_call sr sw⟩
theorem jn_callB {rd : List D → (List D → Prop) → Prop} (hc : CallN X (.builtin id) r rd) (hg : Gl X x) (hm : X.mg x = none) (hv : bootBuiltins x = some (.builtin id)) (ha : JA X (e :: es) us u) (hn : x ≠ "__name__" := by decide) (hdb : (x == ("__debug__" : Str)) = false := by decide)
    (he : starEach (e :: es) X.env = (false, eval e X.env) :: starEach es X.env := by rfl) (hpl : (backTo pos (starEach es X.env)).any (·.1) = false := by rfl) : JN X (.Call (.Name x p) (e :: es) [] pos) (tCB r us) (dCallN rd u) := by
  obtain ⟨cr, sr⟩ := hc
  obtain ⟨pw, sw⟩ := ha
  exact ⟨pe_callB cr hg hm hv pw hn hdb he hpl, sim_callN sr sw⟩
theorem jn_callTy {rd : List D → (List D → Prop) → Prop} (hc : CallN X (.type T) r rd) (hg : Gl X x) (hm : X.mg x = none) (hv : bootBuiltins x = some (.type T)) (ha : JA X (e :: es) us u) (hn : x ≠ "__name__" := by decide) (hdb : (x == ("__debug__" : Str)) = false := by decide)
    (he : starEach (e :: es) X.env = (false, eval e X.env) :: starEach es X.env := by rfl) (hpl : (backTo pos (starEach es X.env)).any (·.1) = false := by rfl) : JN X (.Call (.Name x p) (e :: es) [] pos) (tCB r us) (dCallN rd u) := by
  obtain ⟨cr, sr⟩ := hc
  obtain ⟨pw, sw⟩ := ha
  exact ⟨pe_callTy cr hg hm hv pw hn hdb he hpl, sim_callN sr sw⟩
end
def lenD : List D → (D → Prop) → Prop
  | [.list xs], Q => Q (.int xs.length)
  | [.tuple xs], Q => Q (.int xs.length)
  | [.str z], Q => z.length ≤ 100000 ∧ Q (.int z.length)
  | _, _ => False
def rLenU (K : PySem.W.Frag) : RCl := fun xs H Q => ∃ x n, xs = [x] ∧ LenV K x H n ∧ Q (.int n) H
theorem cd_len : CallD X (.builtin "len") (rLenU X.K) lenD := by
  refine ⟨call_len, ?_⟩
  intro Hs H vs ds Q Q' e r h k
  cases r with
  | nil => exact h.elim
  | cons r1 r2 =>
    cases r2 with
    | cons _ _ => cases r1 <;> exact h.elim
    | nil =>
      cases r1 with
      | str z => exact ⟨_, _, rfl, ⟨sz5 h.1, rfl⟩, k _ _ _ _ (PExt.refl e) (.int _) h.2⟩
      | @lst p xs es h1 a1 => exact ⟨_, es.length, rfl, .inl ⟨xs, e.sl h1, (dpAll_len a1).symm⟩, k _ _ _ _ (PExt.refl e) (.int _) h⟩
      | @tup p xs es h1 a1 => exact ⟨_, es.length, rfl, .inr ⟨xs, e.st h1, (dpAll_len a1).symm⟩, k _ _ _ _ (PExt.refl e) (.int _) h⟩
      | _ => exact h.elim
def toIntD : List D → (D → Prop) → Prop
  | [.int i], Q => Q (.int i)
  | [.bool b], Q => Q (.int (if b then 1 else 0))
  | _, _ => False
def rIntU : RCl := fun xs H Q => (∃ i, xs = [.int i] ∧ Q (.int i) H) ∨ ∃ k, xs = [.bl k] ∧ Q (.int (if k then 1 else 0)) H
theorem cd_int : CallD X (.type "int") rIntU toIntD := by
  refine ⟨call_int1, ?_⟩
  intro Hs H vs ds Q Q' e r h k
  cases r with
  | nil => exact h.elim
  | cons r1 r2 =>
    cases r2 with
    | cons _ _ => cases r1 <;> exact h.elim
    | nil =>
      cases r1 with
      | int i => exact .inl ⟨i, rfl, k _ _ _ _ (PExt.refl e) (.int _) h⟩
      | bl b => exact .inr ⟨b, rfl, k _ _ _ _ (PExt.refl e) (.int _) h⟩
      | _ => exact h.elim
def listD : List D → (List D → Prop) → Prop
  | [.list xs], Q => Q xs
  | [.tuple xs], Q => Q xs
  | _, _ => False
def rListU (K : PySem.W.Frag) : RCl := fun xs H Q => ∃ p ys, xs = [.ref p] ∧ (SqL K H p ys ∨ SqT K H p ys) ∧ ∀ l, H l = none → Q (.ref l) (upd H l (.lst ys))
theorem cn_list : CallN X (.type "list") (rListU X.K) listD := by
  refine ⟨call_list_of, ?_⟩
  intro Hs H vs ds Q Q' e r h k
  cases r with
  | nil => exact h.elim
  | cons r1 r2 =>
    cases r2 with
    | cons _ _ => cases r1 <;> exact h.elim
    | nil =>
      cases r1 with
      | @lst p xs es h1 a1 => exact ⟨p, xs, rfl, .inl (e.sl h1), fun l hl => k _ _ _ hl a1 h⟩
      | @tup p xs es h1 a1 => exact ⟨p, xs, rfl, .inr (e.st h1), fun l hl => k _ _ _ hl a1 h⟩
      | _ => exact h.elim
def tupleD : List D → (D → Prop) → Prop
  | [.list xs], Q => Q (.tuple xs)
  | [.tuple xs], Q => Q (.tuple xs)
  | _, _ => False
def rTupU (K : PySem.W.Frag) : RCl := fun xs H Q => ∃ p ys, xs = [.ref p] ∧ ((SqL K H p ys ∧ ∀ l, H l = none → Q (.ref l) (upd H l (.tup ys))) ∨ (SqT K H p ys ∧ Q (.ref p) H))
theorem cd_tuple : CallD X (.type "tuple") (rTupU X.K) tupleD := by
  refine ⟨call_tuple_of, ?_⟩
  intro Hs H vs ds Q Q' e r h k
  cases r with
  | nil => exact h.elim
  | cons r1 r2 =>
    cases r2 with
    | cons _ _ => cases r1 <;> exact h.elim
    | nil =>
      cases r1 with
      | @lst p xs es h1 a1 =>
        refine ⟨p, xs, rfl, .inl ⟨e.sl h1, fun l hl => ?_⟩⟩
        have x := PExt.new e (.tup xs) hl
        exact k _ _ _ _ x (.tup (.inl (.inl upd_same)) (dpAll_mono x.s a1)) h
      | @tup p xs es h1 a1 => exact ⟨p, xs, rfl, .inr ⟨e.st h1, k _ _ _ _ (PExt.refl e) (.tup h1 a1) h⟩⟩
      | _ => exact h.elim
def int2D (g : Int → Int → Int) : List D → (D → Prop) → Prop
  | [.int i, .int j], Q => Q (.int (g i j))
  | _, _ => False
theorem sim_int2 {K : PySem.W.Frag} (g : Int → Int → Int) : SimC K (fun xs H Q => ∃ i j, xs = [.int i, .int j] ∧ Q (.int (g i j)) H) (int2D g) := by
  intro Hs H vs ds Q Q' e r h k
  cases r with
  | nil => exact h.elim
  | cons r1 r2 =>
    cases r2 with
    | nil => cases r1 <;> exact h.elim
    | cons r2 r3 =>
      cases r3 with
      | cons _ _ => cases r1 <;> cases r2 <;> exact h.elim
      | nil =>
        cases r1 with
        | int i =>
          cases r2 with
          | int j => exact ⟨i, j, rfl, k _ _ _ _ (PExt.refl e) (.int _) h⟩
          | _ => exact h.elim
        | _ => cases r2 <;> exact h.elim
def rInt2 (g : Int → Int → Int) : RCl := fun xs H Q => ∃ i j, xs = [.int i, .int j] ∧ Q (.int (g i j)) H
theorem cd_max2 (hc : X.calm = true) : CallD X (.builtin "max") (rInt2 fun i j => if j > i then j else i) (int2D fun i j => if j > i then j else i) := ⟨call_max2 hc, sim_int2 _⟩
theorem cd_min2 (hc : X.calm = true) : CallD X (.builtin "min") (rInt2 fun i j => if j < i then j else i) (int2D fun i j => if j < i then j else i) := ⟨call_min2 hc, sim_int2 _⟩
def rMaxL (K : PySem.W.Frag) (g : D → List D → D) : List V → Hp → VK → Prop := fun vs H Q => ∃ a xs x ds, vs = [.ref a] ∧ SqL K H a xs ∧ DpAll K H xs (x :: ds) ∧ PySem.W.AlikeAll (x :: ds) ∧ PyData.depthAll (x :: ds) ≤ 150 ∧
  ∀ (i : Nat) v, xs[i]? = some v → (x :: ds)[i]? = some (g x ds) → Q v H
def maxLD (g : D → List D → D) (ds : List D) (Q : D → Prop) : Prop := ∃ x xs, ds = [.list (x :: xs)] ∧ PySem.W.AlikeAll (x :: xs) ∧ PyData.depthAll (x :: xs) ≤ 150 ∧ Q (g x xs)
theorem sim_maxL {K : PySem.W.Frag} (g : D → List D → D) : SimC K (rMaxL K g) (maxLD g) := by
  intro Hs H vs ds Q Q' e r h k
  obtain ⟨x, xs, rfl, h1, h2, q⟩ := h
  cases r with
  | cons r1 r2 =>
    cases r2 with
    | nil =>
      cases r1 with
      | @lst p ws es hs a1 =>
        refine ⟨p, ws, x, xs, rfl, e.sl hs, dpAll_mono e a1, h1, h2, fun i v hv hd => ?_⟩
        obtain ⟨v', e1, r⟩ := dpAll_get a1 hd
        rw [hv] at e1
        cases e1
        exact k _ _ _ _ (PExt.refl e) r q
theorem vals_get {xs : List V} {us : List Value} (r : Vals xs us) {i : Nat} {u : Value} (h : us[i]? = some u) : ∃ x, xs[i]? = some x ∧ RelV x u := by
  have hl := r.length
  have hi : i < xs.length := by
    rw [hl]
    exact (List.getElem?_eq_some_iff.mp h).1
  obtain ⟨u', e, q⟩ := Vals.get r (List.getElem?_eq_getElem hi)
  rw [h] at e
  cases e
  exact ⟨xs[i], List.getElem?_eq_getElem hi, q⟩
theorem plain_of : ∀ {xs : List D} {x : D}, PyData.plainAll xs = true → x ∈ xs → x.plain = true
  | _ :: _, _, h, hx => by
    rw [PyData.plainAll, Bool.and_eq_true] at h
    rcases List.mem_cons.mp hx with rfl | hx
    · exact h.1
    · exact plain_of h.2 hx
theorem best_at {h h' : Heap} {v : Value} {its : List Value} {xs : List D} {as bs : List Addr} {z : D} {i : Nat} (hr : ReadsAll h its xs as) (hp : PyData.plainAll xs = true) (hv : its[i]? = some v) (hz : Reads h' v z bs) (hk : ∀ b o, h.get? b = some o → h'.get? b = some o) : xs[i]? = some z := by
  obtain ⟨cs, r, hi, hm, _⟩ := PySem.W.readsAll_at hr i v hv
  have e := SeqAt.plain_unique _ _ _ _ _ (plain_of hp hm) (PySem.W.reads_keeps hk r) hz
  rw [← e]
  simp [hi]
theorem dpAll_plain {K : PySem.W.Frag} {H : Hp} : ∀ {vs : List V} {ds : List D}, DpAll K H vs ds → PyData.plainAll ds = true
  | _, _, .nil => rfl
  | _, _, .cons r t => by
    rw [PyData.plainAll, dp_plain r, dpAll_plain t]
    rfl
theorem cr_maxL (hc : X.calm = true) (hu : X.A.units + 200 < cLine) : CallR X (.builtin "max") (rMaxL X.K PySem.W.maxD) := by
  intro pins s σ H vs us Q I r h
  obtain ⟨a, xs, x, ds, rfl, hs, ha, hal, hd, q⟩ := h
  obtain ⟨its, rv, hl, _⟩ := I.list hs
  rw [Vals.ref1 r]
  obtain ⟨as, hr⟩ := Dp.readsAll I _ _ its ha rv
  refine PySem.W.max_list_data (I.ok.hd hc) hl.isList (x := x) (xs := ds) hr hal (by omega) fun i v h' tk bs hv hz hk => ?_
  have hv' : its[i]? = some v := by simpa using hv
  obtain ⟨w', e1, rw'⟩ := vals_get rv hv'
  exact ⟨w', H, I.kept (t' := tk) hk, rw', q i w' e1 (best_at hr (dpAll_plain ha) hv' hz hk)⟩
theorem cr_minL (hc : X.calm = true) (hu : X.A.units + 200 < cLine) : CallR X (.builtin "min") (rMaxL X.K PySem.W.minD) := by
  intro pins s σ H vs us Q I r h
  obtain ⟨a, xs, x, ds, rfl, hs, ha, hal, hd, q⟩ := h
  obtain ⟨its, rv, hl, _⟩ := I.list hs
  rw [Vals.ref1 r]
  obtain ⟨as, hr⟩ := Dp.readsAll I _ _ its ha rv
  refine PySem.W.min_list_data (I.ok.hd hc) hl.isList (x := x) (xs := ds) hr hal (by omega) fun i v h' tk bs hv hz hk => ?_
  have hv' : its[i]? = some v := by simpa using hv
  obtain ⟨w', e1, rw'⟩ := vals_get rv hv'
  exact ⟨w', H, I.kept (t' := tk) hk, rw', q i w' e1 (best_at hr (dpAll_plain ha) hv' hz hk)⟩
theorem cd_maxL (hc : X.calm = true) (hu : X.A.units + 200 < cLine) : CallD X (.builtin "max") (rMaxL X.K PySem.W.maxD) (maxLD PySem.W.maxD) := ⟨cr_maxL hc hu, sim_maxL _⟩
theorem cd_minL (hc : X.calm = true) (hu : X.A.units + 200 < cLine) : CallD X (.builtin "min") (rMaxL X.K PySem.W.minD) (maxLD PySem.W.minD) := ⟨cr_minL hc hu, sim_maxL _⟩
def boolsD (g : List Bool → Bool) (ds : List D) (Q : D → Prop) : Prop := ∃ bs : List Bool, ds = [.list (bs.map .bool)] ∧ Q (.bool (g bs))
theorem dpAll_bls {K : PySem.W.Frag} {H : Hp} : ∀ {vs : List V} {bs : List Bool}, DpAll K H vs (bs.map .bool) → vs = bs.map V.bl
  | _, [], .nil => rfl
  | _, b :: bs, .cons r t => by
    cases r
    rw [dpAll_bls t]
    rfl
theorem cd_all (hc : X.calm = true) : CallD X (.builtin "all") (rAll X.K) (boolsD fun bs => bs.all id) := by
  refine ⟨cr_all hc, ?_⟩
  intro Hs H vs ds Q Q' e r h k
  obtain ⟨bs, rfl, q⟩ := h
  cases r with
  | cons r1 r2 =>
    cases r2 with
    | nil =>
      cases r1 with
      | lst hs a1 =>
        rw [dpAll_bls a1] at hs
        exact ⟨_, bs, rfl, e.sl hs, k _ _ _ _ (PExt.refl e) (.bl _) q⟩
theorem cd_any (hc : X.calm = true) : CallD X (.builtin "any") (rAny X.K) (boolsD fun bs => bs.any id) := by
  refine ⟨cr_any hc, ?_⟩
  intro Hs H vs ds Q Q' e r h k
  obtain ⟨bs, rfl, q⟩ := h
  cases r with
  | cons r1 r2 =>
    cases r2 with
    | nil =>
      cases r1 with
      | lst hs a1 =>
        rw [dpAll_bls a1] at hs
        exact ⟨_, bs, rfl, e.sl hs, k _ _ _ _ (PExt.refl e) (.bl _) q⟩
def tyName : D → String
  | .none => "NoneType"
  | .bool _ => "bool"
  | .int _ => "int"
  | .str _ => "str"
  | .list _ => "list"
  | .tuple _ => "tuple"
  | .dict _ => "dict"
def isT (T : String) (d : D) : Bool := (tyName d == T) || (T == "int" && tyName d == "bool")
theorem dp_ty {K : PySem.W.Frag} {H : Hp} {v : V} {d : D} (r : Dp K H v d) : TyX K H v (.type (tyName d)) := by
  cases r with
  | non => exact .base .non
  | bl b => exact .base (.bl b)
  | int i => exact .base (.int i)
  | str x => exact .base (.str x)
  | lst h _ =>
    rcases h with (h | ⟨o, h⟩) | ⟨o, its, n, h1, h2, _⟩
    · exact .base (.lst h)
    · exact .base (.frz h)
    · exact .kList h1 h2
  | tup h _ =>
    rcases h with (h | ⟨o, h⟩) | ⟨o, its, n, h1, h2, _⟩
    · exact .base (.tup h)
    · exact .fTuple h
    · exact .kTuple h1 h2
def TyOk (T : String) : Prop := ∀ d : D, kitB (tyName d) T = some (isT T d)
theorem tok {T : String} (h : ∀ n ∈ ["NoneType", "bool", "int", "str", "list", "tuple", "dict"], kitB n T = some ((n == T) || (T == "int" && n == "bool"))) : TyOk T := fun d => by
  cases d with
  | none => exact h "NoneType" (by decide)
  | bool b => exact h "bool" (by decide)
  | int i => exact h "int" (by decide)
  | str x => exact h "str" (by decide)
  | list xs => exact h "list" (by decide)
  | tuple xs => exact h "tuple" (by decide)
  | dict kvs => exact h "dict" (by decide)
theorem tok_list : TyOk "list" := tok (by decide +kernel)
theorem tok_tuple : TyOk "tuple" := tok (by decide +kernel)
theorem tok_bool : TyOk "bool" := tok (by decide +kernel)
theorem tok_int : TyOk "int" := tok (by decide +kernel)
theorem tok_str : TyOk "str" := tok (by decide +kernel)
def dIsi (T : String) (t : TDE) : TDE := fun δ Q => t δ fun d δ' => Q (.bool (isT T d)) δ'
theorem je_isi {x : Str} {p p2 : Pos} {T : String} (hT : TyOk T) (hg : Gl X "isinstance") (hm : X.mg "isinstance" = none) (hg2 : Gl X x) (hm2 : X.mg x = none) (hv : bootBuiltins x = some (.type T)) (ha : JE X e ue t)
    (hn : x ≠ "__name__" := by decide) (hd : (x == ("__debug__" : Str)) = false := by decide)
    (hs : starEach [e, .Name x p2] X.env = (false, eval e X.env) :: starEach [.Name x p2] X.env := by rfl)
    (hs2 : starEach [.Name x p2] X.env = (false, eval (.Name x p2) X.env) :: starEach [] X.env := by rfl) (hpl : (backTo pos (starEach [.Name x p2] X.env)).any (·.1) = false := by rfl) : JE X (.Call (.Name "isinstance" p) [e, .Name x p2] [] pos) (tCB (rIsi X.K) (tCons ue (tCons (tC (.ty T)) tNil))) (dIsi T t) := by
  obtain ⟨pu, su⟩ := ha
  refine ⟨pe_callB call_isi hg hm (by decide +kernel) (pa_cons pu (pa_cons (pe_bltn (v := .ty T) hg2 hm2 hv rfl hn hd) pa_nil hs2) hs) (by decide) (by decide) hs hpl, fun R h k => su R h fun v d δ1 H1 Hs1 R1 e1 r1 q => ?_⟩
  exact ⟨v, .ty T, _, _, isT T d, rfl, .ty T, dp_ty (dp_mono R1.ex r1), kit_ty (hT d), k _ _ _ _ _ R1 e1 (.bl _) q⟩
def dIsi2 (T T' : String) (t : TDE) : TDE := fun δ Q => t δ fun d δ' => Q (.bool (isT T d || isT T' d)) δ'
theorem je_isi2 {x y : Str} {p p2 p3 p4 : Pos} {c : Nat} {T T' : String} (hT : TyOk T) (hT' : TyOk T') (hg : Gl X "isinstance") (hm : X.mg "isinstance" = none) (hg2 : Gl X x) (hm2 : X.mg x = none) (hv : bootBuiltins x = some (.type T))
    (hg3 : Gl X y) (hm3 : X.mg y = none) (hv3 : bootBuiltins y = some (.type T')) (ha : JE X e ue t)
    (hn : x ≠ "__name__" := by decide) (hd : (x == ("__debug__" : Str)) = false := by decide) (hn3 : y ≠ "__name__" := by decide) (hd3 : (y == ("__debug__" : Str)) = false := by decide)
    (hs : starEach [e, .Tuple [.Name x p2, .Name y p3] c p4] X.env = (false, eval e X.env) :: starEach [.Tuple [.Name x p2, .Name y p3] c p4] X.env := by rfl)
    (hs2 : starEach [.Tuple [.Name x p2, .Name y p3] c p4] X.env = (false, eval (.Tuple [.Name x p2, .Name y p3] c p4) X.env) :: starEach [] X.env := by rfl)
    (hs3 : starEach [.Name x p2, .Name y p3] X.env = (false, eval (.Name x p2) X.env) :: starEach [.Name y p3] X.env := by rfl)
    (hs4 : starEach [.Name y p3] X.env = (false, eval (.Name y p3) X.env) :: starEach [] X.env := by rfl)
    (hpl : (backTo pos (starEach [.Tuple [.Name x p2, .Name y p3] c p4] X.env)).any (·.1) = false := by rfl) : JE X (.Call (.Name "isinstance" p) [e, .Tuple [.Name x p2, .Name y p3] c p4] [] pos) (tCB (rIsiT X.K) (tCons ue (tCons (tTup (tCons (tC (.ty T)) (tCons (tC (.ty T')) tNil))) tNil))) (dIsi2 T T' t) := by
  obtain ⟨pu, su⟩ := ha
  refine ⟨pe_callB call_isiT hg hm (by decide +kernel) (pa_cons pu (pa_cons (pe_tup (pa_cons (pe_bltn (v := .ty T) hg2 hm2 hv rfl hn hd) (pa_cons (pe_bltn (v := .ty T') hg3 hm3 hv3 rfl hn3 hd3) pa_nil hs4) hs3)) pa_nil hs2) hs) (by decide) (by decide) hs hpl, fun R h k => su R h fun v d δ1 H1 Hs1 R1 e1 r1 q => ?_⟩
  refine ⟨(by show 2 ≤ sizeLine; decide), fun tp hp => ?_⟩
  have x := PExt.raw R1.ex (.tup [.ty T, .ty T']) hp
  refine ⟨v, tp, _, _, [.type T, .type T'], isT T d || isT T' d, rfl, upd_same, .cons (.ty T) (.cons (.ty T') .nil), dp_ty (dp_mono (R1.ex.trans x.h) r1), ?_, k _ _ _ _ _ (R1.ext x) (e1.trans x.s) (.bl _) q⟩
  refine kitAny_cons (kit_ty (hT d)) (fun hb => ?_) (fun hb => by rw [hb]; rfl)
  rw [hb, Bool.false_or]
  exact kitAny_cons (kit_ty (hT' d)) (fun hb => by rw [hb]; exact kitAny_nil) (fun hb => hb)
def rSortD (K : PySem.W.Frag) : List V → Hp → VK → Prop := fun vs H Q => ∃ a xs ds, vs = [.ref a] ∧ SqL K H a xs ∧ DpAll K H xs ds ∧ PySem.W.AllAlike ds ∧ PySem.W.Sortable ds ∧ (∀ d ∈ ds, d.depth ≤ 150) ∧
  ∀ (zs : List (V × D)) p, zs.Perm (xs.zip ds) → H p = none → Q (.ref p) (upd H p (.lst (zs.map Prod.fst)))
def sortD (ds : List D) (Q : List D → Prop) : Prop := ∃ xs, ds = [.list xs] ∧ PySem.W.AllAlike xs ∧ PySem.W.Sortable xs ∧ (∀ d ∈ xs, d.depth ≤ 150) ∧ ∀ ys, ys.Perm xs → Q ys
theorem dpAll_zip {K : PySem.W.Frag} {H : Hp} : ∀ {vs : List V} {ds : List D}, DpAll K H vs ds → ∀ p ∈ vs.zip ds, Dp K H p.1 p.2
  | _, _, .nil, p, h => by simp at h
  | _, _, .cons r t, p, h => by
    rw [List.zip_cons_cons] at h
    rcases List.mem_cons.mp h with rfl | h
    · exact r
    · exact dpAll_zip t p h
theorem dpAll_unzip {K : PySem.W.Frag} {H : Hp} : ∀ {zs : List (V × D)}, (∀ p ∈ zs, Dp K H p.1 p.2) → DpAll K H (zs.map Prod.fst) (zs.map Prod.snd)
  | [], _ => .nil
  | z :: zs, h => .cons (h z List.mem_cons_self) (dpAll_unzip fun p hp => h p (List.mem_cons_of_mem _ hp))
theorem sim_sort {K : PySem.W.Frag} : SimCN K (rSortD K) sortD := by
  intro Hs H vs ds Q Q' e r h k
  obtain ⟨xs, rfl, h1, h2, h3, q⟩ := h
  cases r with
  | cons r1 r2 =>
    cases r2 with
    | nil =>
      cases r1 with
      | @lst p ws es hs a1 =>
        refine ⟨p, ws, xs, rfl, e.sl hs, dpAll_mono e a1, h1, h2, h3, fun zs p hz hp => ?_⟩
        refine k p _ (zs.map Prod.snd) hp (dpAll_unzip fun z hz' => dpAll_zip a1 z (hz.mem_iff.mp hz')) (q _ ?_)
        have := hz.map Prod.snd
        rw [List.map_snd_zip (by rw [dpAll_len a1]; exact Nat.le_refl _)] at this
        exact this
theorem each_zip {h : Heap} : ∀ {xs : List V} {ds : List D} {us : List Value} {as : List Addr}, Vals xs us → ReadsAll h us ds as →
    PySem.W.EachIs (fun (u : Value) (b : V × D) => RelV b.1 u) us (xs.zip ds) ∧ PySem.W.EachIs (fun (u : Value) (b : V × D) => ∃ as, Reads h u b.2 as) us (xs.zip ds)
  | [], _, _, _, .nil, r => by
    cases r
    exact ⟨.nil, .nil⟩
  | x :: xs, _, _, _, .cons r t, .cons q qs => ⟨.cons r (each_zip t qs).1, .cons ⟨_, q⟩ (each_zip t qs).2⟩
theorem each_vals : ∀ {us : List Value} {bs : List (V × D)}, PySem.W.EachIs (fun (u : Value) (b : V × D) => RelV b.1 u) us bs → Vals (bs.map Prod.fst) us
  | _, _, .nil => .nil
  | _, _, .cons r t => .cons r (each_vals t)
theorem sort_rule {us : List Value} {xs : List V} {ds : List D} {Q : VK} {rev : Bool} {out : List Value} (I : Inv X pins σ H s) (hz : xs.length ≤ sizeLine) (hl : xs.length = ds.length)
    (q : ∀ (zs : List (V × D)) p, zs.Perm (xs.zip ds) → H p = none → Q (.ref p) (upd H p (.lst (zs.map Prod.fst)))) (he : PySem.W.EachIs (fun (u : Value) (b : V × D) => RelV b.1 u) out ((xs.zip ds).mergeSort (PySem.W.dataLe rev Prod.snd))) :
    EP X pins σ Q (.ref (s.heap.objs.size + 1)) { s with heap := PyProof.Rows.sortedAll s.heap us (List.toArray out) } := by
  obtain ⟨ep, he'⟩ := PyProof.Rows.sortedAll_at s.heap us out.toArray
  have hp : ((xs.zip ds).mergeSort (PySem.W.dataLe rev Prod.snd)).Perm (xs.zip ds) := List.mergeSort_perm _ _
  refine ⟨.ref _, upd H (s.heap.objs.size + 1) (.lst (((xs.zip ds).mergeSort (PySem.W.dataLe rev Prod.snd)).map Prod.fst)), I.laid (t' := s.toks) (fun _ _ => PyProof.Rows.sortedAll_old) (Nat.le_succ _) ⟨?_, out, ep, each_vals he, he'⟩, rfl, q _ _ hp (I.hok.fresh (Nat.le_succ _))⟩
  rw [List.length_map, hp.length_eq, List.length_zip]
  omega
theorem cr_sortD (hu : X.A.units + 200 < cLine) : CallR X (.builtin "sorted") (rSortD X.K) := by
  intro pins s σ H vs us Q I r h
  obtain ⟨a, xs, ds, rfl, hs, ha, h1, h2, h3, q⟩ := h
  obtain ⟨its, rv, hl, hz⟩ := I.list hs
  rw [Vals.ref1 r]
  obtain ⟨as, hr⟩ := Dp.readsAll I _ _ its ha rv
  obtain ⟨e1, e2⟩ := each_zip rv hr
  have hm : (xs.zip ds).map Prod.snd = ds := List.map_snd_zip (by rw [dpAll_len ha]; exact Nat.le_refl _)
  refine PySem.W.sorted_data (enc := Prod.snd) hl.isList e1 e2 (by rw [hm]; exact h1) (by rw [hm]; exact h2) (by rw [List.length_zip]; omega) (fun b hb => ?_) fun out ho he => sort_rule I hz (dpAll_len ha) q he
  have := h3 b.2 (List.of_mem_zip (a := b.1) (b := b.2) hb).2
  omega
theorem cn_sorted (hu : X.A.units + 200 < cLine) : CallN X (.builtin "sorted") (rSortD X.K) sortD := ⟨cr_sortD hu, sim_sort⟩
end
end DL
namespace DL
open PySem PySem.Spec PyProof.Rows L2
structure EndsOk (K : PySem.W.Frag) (B H0 Hs : Hp) (D : DEnds) (D' : Ends) : Prop where
  nx : ∀ σ δ H Hs', Rep K B H0 σ δ H Hs' → Ex Hs Hs' → D.nx δ → D'.nx σ H
  rt : ∀ v d σ δ H Hs', Rep K B H0 σ δ H Hs' → Ex Hs Hs' → Dp K Hs' v d → D.rt (.dt d) δ → D'.rt v H
  rn : ∀ p vs xs σ δ H Hs', Rep K (upd B p (.lst vs)) H0 σ δ H Hs' → B p = none → H0 p = none → Ex Hs Hs' → DpAll K Hs' vs xs → D.rt (.new xs) δ → D'.rt (.ref p) H
  bk : ∀ σ δ H Hs', Rep K B H0 σ δ H Hs' → Ex Hs Hs' → D.bk δ → D'.bk σ H
  ct : ∀ σ δ H Hs', Rep K B H0 σ δ H Hs' → Ex Hs Hs' → D.ct δ → D'.ct σ H
theorem EndsOk.mono {K : PySem.W.Frag} {B H0 Hs Hs1 : Hp} {D : DEnds} {D' : Ends} (k : EndsOk K B H0 Hs D D') (e : Ex Hs Hs1) : EndsOk K B H0 Hs1 D D' where
  nx := fun _ _ _ _ R x => k.nx _ _ _ _ R (e.trans x)
  rt := fun _ _ _ _ _ _ R x => k.rt _ _ _ _ _ _ R (e.trans x)
  rn := fun _ _ _ _ _ _ _ R h1 h2 x => k.rn _ _ _ _ _ _ _ R h1 h2 (e.trans x)
  bk := fun _ _ _ _ R x => k.bk _ _ _ _ R (e.trans x)
  ct := fun _ _ _ _ R x => k.ct _ _ _ _ R (e.trans x)
def SimS (K : PySem.W.Frag) (ts : TS) (t : TDS) : Prop := ∀ {B H0 : Hp} {σ : L2.St} {δ : Dl} {H Hs : Hp} {D : DEnds} {D' : Ends}, Rep K B H0 σ δ H Hs → t D δ → EndsOk K B H0 Hs D D' → ts D' σ H
structure JS (X : Cx) (st : Stmt) (u : TS) (t : TDS) : Prop where
  p : PS X st u
  s : SimS X.K u t
structure JSs (X : Cx) (st : List Stmt) (u : TS) (t : TDS) : Prop where
  p : PSs X st u
  s : SimS X.K u t
abbrev TDG := D → Dl → (Dl → Prop) → Prop
abbrev TDGs := List D → Dl → (Dl → Prop) → Prop
def SimG (K : PySem.W.Frag) (g : TG) (t : TDG) : Prop := ∀ {B H0 : Hp} {σ : L2.St} {δ : Dl} {H Hs : Hp} {v : V} {d : D} {Q : Dl → Prop} {Q' : L2.St → Hp → Prop}, Rep K B H0 σ δ H Hs → Dp K Hs v d → t d δ Q →
  (∀ σ' δ', Rep K B H0 σ' δ' H Hs → Q δ' → Q' σ' H) → g v σ H Q'
def SimGs (K : PySem.W.Frag) (g : TGs) (t : TDGs) : Prop := ∀ {B H0 : Hp} {σ : L2.St} {δ : Dl} {H Hs : Hp} {vs : List V} {ds : List D} {Q : Dl → Prop} {Q' : L2.St → Hp → Prop}, Rep K B H0 σ δ H Hs → DpAll K Hs vs ds → t ds δ Q →
  (∀ σ' δ', Rep K B H0 σ' δ' H Hs → Q δ' → Q' σ' H) → g vs σ H Q'
structure JG (X : Cx) (e : Expr) (u : TG) (t : TDG) : Prop where
  p : PG X e u
  s : SimG X.K u t
structure JGs (X : Cx) (es : List Expr) (u : TGs) (t : TDGs) : Prop where
  p : PGs X es u
  s : SimGs X.K u t
section
variable {X : Cx} {e a b : Expr} {es : List Expr} {pos : Pos} {t ta tb : TDE} {ue ua ub : TE} {us : TA} {vt : TT} {g : TG} {gs : TGs} {tg : TDG} {tgs : TDGs} {st : Stmt} {sts : List Stmt} {w w1 w2 : TS} {s s1 s2 : TDS}
def sNext : TDS := fun D δ => D.nx δ
def sSeq (t u : TDS) : TDS := fun D δ => t { D with nx := u D } δ
theorem js_nil : JSs X [] tNext sNext := ⟨pss_nil, fun R h k => k.nx _ _ _ _ R (Ex.refl _) h⟩
theorem js_cons (h1 : JS X st w1 s1) (h2 : JSs X sts w2 s2) : JSs X (st :: sts) (tSeq w1 w2) (sSeq s1 s2) := ⟨pss_cons h1.p h2.p, fun R h k =>
  h1.s R h ⟨fun _ _ _ _ R1 x q => h2.s R1 q (k.mono x), k.rt, k.rn, k.bk, k.ct⟩⟩
theorem js_one (h1 : JS X st w s) : JSs X [st] w s := ⟨pss_one h1.p, h1.s⟩
def sBreak : TDS := fun D δ => D.bk δ
def sCont : TDS := fun D δ => D.ct δ
theorem js_pass : JS X (.Pass pos) tNext sNext := ⟨ps_pass, fun R h k => k.nx _ _ _ _ R (Ex.refl _) h⟩
theorem js_break : JS X (.Break pos) tBreak sBreak := ⟨ps_break, fun R h k => k.bk _ _ _ _ R (Ex.refl _) h⟩
theorem js_continue : JS X (.Continue pos) tCont sCont := ⟨ps_continue, fun R h k => k.ct _ _ _ _ R (Ex.refl _) h⟩
theorem js_doc {x j p'} : JS X (.Expr (.Constant (.str x) j pos) p') tNext sNext := ⟨ps_doc, fun R h k => k.nx _ _ _ _ R (Ex.refl _) h⟩
def sDrop (t : TDE) : TDS := fun D δ => t δ fun _ δ' => D.nx δ'
theorem js_expr (h : JE X e ue t) (hs : swapsWith e none pos.line X.env = pure false := by rfl) : JS X (.Expr e pos) (tDrop ue) (sDrop t) := ⟨ps_expr h.p hs, fun R q k => h.s R q fun _ _ _ _ _ R1 x _ q1 => k.nx _ _ _ _ R1 x q1⟩
def sRet (t : TDE) : TDS := fun D δ => t δ fun d δ' => D.rt (.dt d) δ'
theorem js_ret (h : JE X e ue t) : JS X (.Return (some e) pos) (tRet ue) (sRet t) := ⟨ps_ret h.p, fun R q k => h.s R q fun _ _ _ _ _ R1 x r q1 => k.rt _ _ _ _ _ _ R1 x r q1⟩
def sRetNew (t : TDL) : TDS := fun D δ => t δ fun xs δ' => D.rt (.new xs) δ'
theorem js_retNew {tl : TDL} (h : JN X e ue tl) : JS X (.Return (some e) pos) (tRet ue) (sRetNew tl) := ⟨ps_ret h.p, fun R q k => h.s R q fun _ _ _ _ _ _ R1 hB h0 x r q1 => k.rn _ _ _ _ _ _ _ R1 hB h0 x r q1⟩
def sRetOwn (i : Nat) : TDS := fun D δ => ∃ p xs, δ[i]? = some (.ow p (.lst xs)) ∧ D.rt (.new xs) (δ.set i .un)
theorem js_retOwn (i : Nat) {x : Str} {p : Pos} (hN : X.N[i]? = some x := by rfl) (hv : Vis X.env.scope x := by first | exact Or.inl rfl | exact Or.inr (Or.inl rfl) | exact Or.inr (Or.inr rfl)) (hd : (x == ("__debug__" : Str)) = false := by decide)
    (hcd : (x == ("__classdict__" : Str)) = false := by decide) : JS X (.Return (some (.Name x p)) pos) (tRet (tVar i)) (sRetOwn i) := ⟨ps_ret (pe_var hN hv hd hcd), fun R ⟨p, xs, ex, q⟩ k => by
  obtain ⟨vs, e1, hp, h1, h2, h3, ha, R1⟩ := R.take ex
  exact ⟨_, e1, k.rn p vs xs _ _ _ _ R1 h2 h3 (Ex.refl _) ha q⟩⟩
def sRetN : TDS := fun D δ => D.rt (.dt .none) δ
theorem js_retN : JS X (.Return none pos) tRetN sRetN := ⟨ps_retN, fun R q k => k.rt _ _ _ _ _ _ R (Ex.refl _) .non q⟩
def sIf (c : TDB) (t u : TDS) : TDS := fun D δ => c δ fun b δ' => if b = true then t D δ' else u D δ'
theorem js_if {c : Expr} {tc : TDB} {x y : List Stmt} (hc : JT X c vt tc) (ha : JSs X x w1 s1) (hb : JSs X y w2 s2) : JS X (.If c x y pos) (tIfS vt w1 w2) (sIf tc s1 s2) := ⟨ps_if hc.p ha.p hb.p, fun R h k =>
  hc.s R h fun c δ1 H1 Hs1 R1 e1 q => by
    cases c with
    | true =>
      rw [if_pos rfl] at q ⊢
      exact ha.s R1 q (k.mono e1)
    | false =>
      rw [if_neg Bool.false_ne_true] at q ⊢
      exact hb.s R1 q (k.mono e1)⟩
def dgName (i : Nat) : TDG := fun d δ Q => Q (δ.set i (.dt d))
theorem jg_name {i : Nat} {x : Str} (hN : X.N.Nodup) (hi : X.N[i]? = some x := by rfl) (hx : Loc X.env.scope x := by first | exact .inl rfl | exact .inr rfl) (hf : X.fn x = true ∨ X.env.scope.names.lookup x = some .local := by first | exact .inl rfl | exact .inr rfl | assumption) : JG X (.Name x pos) (gName i) (dgName i) :=
  ⟨pg_name hN hi hx hf, fun R r q k => k _ _ (R.set r i) q⟩
def dgNil : TDGs := fun ds δ Q => ds = [] ∧ Q δ
def dgCons (t : TDG) (u : TDGs) : TDGs := fun ds δ Q => ∃ d r, ds = d :: r ∧ t d δ fun δ' => u r δ' Q
def dgTup (n : Nat) (t : TDGs) : TDG := fun d δ Q => ∃ xs, d = .tuple xs ∧ xs.length = n ∧ t xs δ Q
theorem jgs_nil : JGs X [] gNil dgNil := ⟨pgs_nil, fun R r ⟨e, q⟩ k => by
  subst e
  cases r
  exact ⟨rfl, k _ _ R q⟩⟩
theorem jgs_cons (h1 : JG X e g tg) (h2 : JGs X es gs tgs) (hs : (assignEach (e :: es) X.env).map (·.2) = assign e X.env :: (assignEach es X.env).map (·.2) := by rfl) : JGs X (e :: es) (gCons g gs) (dgCons tg tgs) := ⟨pgs_cons h1.p h2.p hs, fun R r ⟨d, ds, e, q⟩ k => by
  subst e
  cases r with
  | cons r1 r2 => exact ⟨_, _, rfl, h1.s R r1 q fun σ' δ' R1 q1 => h2.s R1 r2 q1 k⟩⟩
theorem jg_tup {c n : Nat} (hc : X.calm = true) (h : JGs X es gs tgs) (hn : (assignEach es X.env).length = n := by rfl) (hst : (assignEach es X.env).findIdx? (·.1) = none := by rfl) : JG X (.Tuple es c pos) (gTup X.K n gs) (dgTup n tgs) :=
  ⟨pg_tup hc h.p hn hst, fun R r ⟨xs, e, hl, q⟩ k => by
    subst e
    cases r with
    | tup hs ha => exact ⟨_, _, rfl, R.ex.st hs, by rw [dpAll_len ha]; exact hl, h.s R ha q k⟩⟩
def sAsg (t : TDE) (g : TDG) : TDS := fun D δ => t δ fun d δ' => g d δ' D.nx
theorem js_asg (he : JE X e ue t) (hg : JG X a g tg) (hs : swapsWithSole [a] e pos.line X.env = pure false := by rfl) (hw : swappedStores [a] e X.env = pure none := by rfl)
    (h1 : (assignEach [a] X.env).map (·.2) = [assign a X.env] := by rfl) : JS X (.Assign [a] e pos) (tAsg ue g) (sAsg t tg) := ⟨ps_asg he.p hg.p hs hw h1, fun R q k =>
  he.s R q fun _ _ _ _ _ R1 x r q1 => hg.s R1 r q1 fun _ _ R2 q2 => k.nx _ _ _ _ R2 x q2⟩
theorem js_set {i : Nat} {x : Str} {p' : Pos} (hN : X.N.Nodup) (he : JE X e ue t) (hi : X.N[i]? = some x := by rfl) (hx : Loc X.env.scope x := by first | exact .inl rfl | exact .inr rfl) (hs : swapsWith e (some (.Name x p')) pos.line X.env = pure false := by rfl)
    (hf : X.fn x = true ∨ X.env.scope.names.lookup x = some .local := by first | exact .inl rfl | exact .inr rfl | assumption) : JS X (.Assign [.Name x p'] e pos) (tAsg ue (gName i)) (sAsg t (dgName i)) := ⟨ps_set hN hi hx he.p hs hf, fun R q k =>
  he.s R q fun _ _ _ _ _ R1 x r q1 => k.nx _ _ _ _ (R1.set r i) x q1⟩
def sOwn (t : TDL) (i : Nat) : TDS := fun D δ => t δ fun xs δ' => i < δ'.length ∧ ∀ p, D.nx (δ'.set i (.ow p (.lst xs)))
theorem js_own {i : Nat} {x : Str} {p' : Pos} {tl : TDL} (hN : X.N.Nodup) (he : JN X e ue tl) (hi : X.N[i]? = some x := by rfl) (hx : Loc X.env.scope x := by first | exact .inl rfl | exact .inr rfl) (hs : swapsWith e (some (.Name x p')) pos.line X.env = pure false := by rfl)
    (hf : X.fn x = true ∨ X.env.scope.names.lookup x = some .local := by first | exact .inl rfl | exact .inr rfl | assumption) : JS X (.Assign [.Name x p'] e pos) (tAsg ue (gName i)) (sOwn tl i) := ⟨ps_set hN hi hx he.p hs hf, fun R q k =>
  he.s R q fun p vs xs δ' H' Hs' R1 hB h0 x r ⟨hl, q1⟩ => k.nx _ _ _ _ (R1.own hB h0 r hl) x (q1 p)⟩
def sFrz (i : Nat) (t : TDS) : TDS := fun D δ => ∃ p xs, δ[i]? = some (.ow p (.lst xs)) ∧ t D (δ.set i (.dt (.list xs)))
theorem js_frz (i : Nat) (h : JSs X sts w s) : JSs X sts w (sFrz i s) := ⟨h.p, fun R ⟨p, xs, e, q⟩ k => by
  obtain ⟨v, Hs', e1, x, r, R1⟩ := R.frzAt e
  exact h.s R1 q (k.mono x)⟩
def sAug (i : Nat) (t : TDE) (f : Int → Int → Int) : TDS := fun D δ => ∃ a, δ[i]? = some (.dt (.int a)) ∧ t δ fun d δ' => ∃ b, d = .int b ∧ D.nx (δ'.set i (.dt (.int (f a b))))
theorem js_aug {i : Nat} {x : Str} {op : Operator} {f : Int → Int → Int} {p' : Pos} (ho : PIp X op (ipI f)) (hN : X.N.Nodup) (he : JE X e ue t) (hi : X.N[i]? = some x := by rfl) (hx : Loc X.env.scope x := by first | exact .inl rfl | exact .inr rfl)
    (hf : X.fn x = true ∨ X.env.scope.names.lookup x = some .local := by first | exact .inl rfl | exact .inr rfl | assumption) : JS X (.AugAssign (.Name x p') op e pos) (tAug i ue (ipI f)) (sAug i t f) := ⟨ps_aug hN hi hx he.p ho hf, fun R ⟨a, e, q⟩ k => by
  obtain ⟨v, e1, r⟩ := R.get e
  cases r
  refine ⟨_, e1, he.s R q fun v d δ' H' Hs' R1 x r ⟨b, eb, q1⟩ => ?_⟩
  subst eb
  cases r
  exact ⟨a, b, rfl, rfl, k.nx _ _ _ _ (R1.set (.int _) i) x q1⟩⟩
def sApp (i : Nat) (t : TDE) : TDS := fun D δ => (∃ p xs, δ[i]? = some (.ow p (.lst xs))) ∧ t δ fun d δ' => ∃ p xs, δ'[i]? = some (.ow p (.lst xs)) ∧ xs.length ≤ 100000 ∧ D.nx (δ'.set i (.ow p (.lst (xs ++ [d]))))
theorem own_at {K : PySem.W.Frag} {B H0 H Hs : Hp} {σ : L2.St} {δ : Dl} {i : Nat} {p : Addr} {xs : List D} (R : Rep K B H0 σ δ H Hs) (h : δ[i]? = some (.ow p (.lst xs))) : ∃ vs, σ[i]? = some (some (.ref p)) ∧ H p = some (.lst vs) ∧ DpAll K Hs vs xs := by
  obtain ⟨vs, e, hp, _, _, _, ha, _⟩ := R.take h
  exact ⟨vs, e, hp, ha⟩
theorem lt_line {n : Nat} (h : n ≤ 100000) : n < sizeLine := Nat.lt_of_le_of_lt h (by decide)
theorem je_tVar {K : PySem.W.Frag} {B H0 H Hs : Hp} {σ : L2.St} {δ : Dl} {i : Nat} {p : Addr} {xs : List D} {Q : VK} (R : Rep K B H0 σ δ H Hs) (h : δ[i]? = some (.ow p (.lst xs))) (q : Q (.ref p) H) : tVar i σ H Q := by
  obtain ⟨vs, e, hp, ha⟩ := own_at R h
  exact ⟨_, e, q⟩
theorem js_app {x : Str} {p1 p2 p3 : Pos} (i : Nat) (he : JE X e ue t) (hN : X.N[i]? = some x := by rfl) (hv : Vis X.env.scope x := by first | exact Or.inl rfl | exact Or.inr (Or.inl rfl) | exact Or.inr (Or.inr rfl)) (hd : (x == ("__debug__" : Str)) = false := by decide)
    (hcd : (x == ("__classdict__" : Str)) = false := by decide) (hs : starEach [e] X.env = (false, eval e X.env) :: starEach [] X.env := by rfl)
    (h1 : PE X (.Call (.Attribute (.Name x p1) "append" p2) [e] [] p3) (tBM X.K "list" rAppend (tVar i) (tCons ue tNil)) → PS X (.Expr (.Call (.Attribute (.Name x p1) "append" p2) [e] [] p3) pos) (tDrop (tBM X.K "list" rAppend (tVar i) (tCons ue tNil))) := by exact fun z => ps_expr z)
    (h2 : PE X (.Name x p1) (tVar i) → PA X [e] (tCons ue tNil) → PE X (.Call (.Attribute (.Name x p1) "append" p2) [e] [] p3) (tBM X.K "list" rAppend (tVar i) (tCons ue tNil)) := by exact fun z y => pe_bm PySem.F.plainAttrs_list PySem.F.slot_list_append PySem.F.type_list_append mt_append z y) :
    JS X (.Expr (.Call (.Attribute (.Name x p1) "append" p2) [e] [] p3) pos) (tDrop (tBM X.K "list" rAppend (tVar i) (tCons ue tNil))) (sApp i t) := by
  refine ⟨h1 (h2 (pe_var hN hv hd hcd) (pa_cons he.p pa_nil hs)), fun R ⟨⟨p, xs, ex⟩, q⟩ k => ?_⟩
  obtain ⟨vs, e1, hp, ha⟩ := own_at R ex
  refine ⟨_, e1, .inl ⟨rfl, vs, .inl (.inl hp)⟩, he.s R q fun v d δ' H' Hs' R1 x r ⟨p', ys, ey, hl, q1⟩ => ?_⟩
  obtain ⟨ws, e2, hp2, ha2⟩ := own_at R1 ey
  rw [e1] at e2
  cases e2
  refine ⟨p, ws, v, rfl, rfl, hp2, by rw [dpAll_len ha2]; exact lt_line hl, ?_⟩
  exact k.nx _ _ _ _ (R1.change ey (dpAll_app ha2 (.cons r .nil))) x q1
def dPop (i : Nat) : TDE := fun δ Q => ∃ p xs d, δ[i]? = some (.ow p (.lst (xs ++ [d]))) ∧ Q d (δ.set i (.ow p (.lst xs)))
theorem dpAll_snoc {K : PySem.W.Frag} {H : Hp} {vs : List V} {ds : List D} {d : D} (h : DpAll K H vs (ds ++ [d])) : ∃ ws v, vs = ws ++ [v] ∧ DpAll K H ws ds ∧ Dp K H v d := by
  induction ds generalizing vs with
  | nil =>
    cases h with
    | cons r t =>
      cases t
      exact ⟨[], _, rfl, .nil, r⟩
  | cons x xs ih =>
    cases h with
    | cons r t =>
      obtain ⟨ws, v, rfl, h1, h2⟩ := ih t
      exact ⟨_ :: ws, v, rfl, .cons r h1, h2⟩
theorem je_pop {x : Str} {p1 p2 p3 : Pos} (i : Nat) (hN : X.N[i]? = some x := by rfl) (hv : Vis X.env.scope x := by first | exact Or.inl rfl | exact Or.inr (Or.inl rfl) | exact Or.inr (Or.inr rfl)) (hd : (x == ("__debug__" : Str)) = false := by decide)
    (hcd : (x == ("__classdict__" : Str)) = false := by decide)
    (h2 : PE X (.Name x p1) (tVar i) → PE X (.Call (.Attribute (.Name x p1) "pop" p2) [] [] p3) (tBM0 X.K "list" rPop (tVar i)) := by exact fun z => pe_bm0 PySem.F.plainAttrs_list PySem.F.slot_list_pop PySem.F.type_list_pop mt_pop z) :
    JE X (.Call (.Attribute (.Name x p1) "pop" p2) [] [] p3) (tBM0 X.K "list" rPop (tVar i)) (dPop i) := by
  refine ⟨h2 (pe_var hN hv hd hcd), fun R ⟨p, xs, d, ex, q⟩ k => ?_⟩
  obtain ⟨vs, e1, hp, ha⟩ := own_at R ex
  obtain ⟨ws, v, rfl, h1, h3⟩ := dpAll_snoc ha
  refine ⟨_, e1, .inl ⟨rfl, _, .inl (.inl hp)⟩, p, ws ++ [v], v, rfl, rfl, hp, by simp, ?_⟩
  rw [List.dropLast_concat]
  exact k _ _ _ _ _ (R.change ex h1) (Ex.refl _) h3 q
def dLenO (i : Nat) : TDE := fun δ Q => ∃ p xs, δ[i]? = some (.ow p (.lst xs)) ∧ Q (.int xs.length) δ
theorem je_lenO {x : Str} {p1 p2 : Pos} (i : Nat) (hg : Gl X "len") (hm : X.mg "len" = none) (hN : X.N[i]? = some x := by rfl) (hv : Vis X.env.scope x := by first | exact Or.inl rfl | exact Or.inr (Or.inl rfl) | exact Or.inr (Or.inr rfl)) (hd : (x == ("__debug__" : Str)) = false := by decide)
    (hcd : (x == ("__classdict__" : Str)) = false := by decide) (hs : starEach [.Name x p2] X.env = (false, eval (.Name x p2) X.env) :: starEach [] X.env := by rfl) (hpl : (backTo pos (starEach [] X.env)).any (·.1) = false := by rfl) :
    JE X (.Call (.Name "len" p1) [.Name x p2] [] pos) (tCB (rLenU X.K) (tCons (tVar i) tNil)) (dLenO i) :=
  ⟨pe_callB call_len hg hm PySem.boot_len (pa_cons (pe_var hN hv hd hcd) pa_nil hs) (by decide) (by decide) hs hpl, fun R ⟨p, xs, ex, q⟩ k => by
    obtain ⟨vs, e1, hp, ha⟩ := own_at R ex
    exact ⟨_, e1, _, xs.length, rfl, .inl ⟨vs, .inl (.inl hp), (dpAll_len ha).symm⟩, k _ _ _ _ _ R (Ex.refl _) (.int _) q⟩⟩
def sSetO (i : Nat) (tj t : TDE) : TDS := fun D δ => t δ fun d δ1 => (∃ p xs, δ1[i]? = some (.ow p (.lst xs))) ∧ tj δ1 fun dj δ2 => ∃ p xs j k, δ2[i]? = some (.ow p (.lst xs)) ∧ dj = .int j ∧ ixN xs.length j = some k ∧ D.nx (δ2.set i (.ow p (.lst (xs.set k d))))
theorem js_setO {x : Str} {p1 p2 : Pos} {j : Expr} {uj : TE} {tj : TDE} (i : Nat) (hj : JE X j uj tj) (he : JE X e ue t) (hN : X.N[i]? = some x := by rfl) (hv : Vis X.env.scope x := by first | exact Or.inl rfl | exact Or.inr (Or.inl rfl) | exact Or.inr (Or.inr rfl)) (hd : (x == ("__debug__" : Str)) = false := by decide)
    (hcd : (x == ("__classdict__" : Str)) = false := by decide)
    (h1 : PE X (.Name x p1) (tVar i) → PE X j uj → PE X e ue → PS X (.Assign [.Subscript (.Name x p1) j p2] e pos) (tAsg ue (gSub (tVar i) uj rSetL)) := by exact fun z y v => ps_asg v (pg_sub z y set_list)) :
    JS X (.Assign [.Subscript (.Name x p1) j p2] e pos) (tAsg ue (gSub (tVar i) uj rSetL)) (sSetO i tj t) := by
  refine ⟨h1 (pe_var hN hv hd hcd) hj.p he.p, fun R q k => he.s R q fun v d δ1 H1 Hs1 R1 x1 r ⟨⟨p, xs, ex⟩, q1⟩ => ?_⟩
  obtain ⟨vs, e1, hp, ha⟩ := own_at R1 ex
  refine ⟨_, e1, hj.s R1 q1 fun u dj δ2 H2 Hs2 R2 x2 r2 ⟨p', ys, j', k', ey, ej, hk, q2⟩ => ?_⟩
  subst ej
  cases r2
  obtain ⟨ws, e2, hp2, ha2⟩ := own_at R2 ey
  rw [e1] at e2
  cases e2
  refine ⟨p, ws, j', k', rfl, rfl, hp2, by rw [dpAll_len ha2]; exact hk, ?_⟩
  exact k.nx _ _ _ _ (R2.change ey (dpAll_set (dp_mono x2 r) k' ha2)) (x1.trans x2) q2
end
end DL
namespace DL
open PySem PySem.Spec PyProof.Rows L2
abbrev TDI := Dl → (List D → Dl → Prop) → Prop
def ItOk (K : PySem.W.Frag) (J : It) (xs : List D) (Hs : Hp) : Prop := ∀ (i : Nat) (H Hs1 : Hp), Ex Hs Hs1 → Ex Hs1 H → (xs.length ≤ i → J.stop i H) ∧
  ∀ d, xs[i]? = some d → J.go i H ∧ ∀ x H', J.yld i H x H' → ∃ Hs2, PExt Hs1 H Hs2 H' ∧ Dp K Hs2 x d
def SimI (K : PySem.W.Frag) (wi : TI) (t : TDI) : Prop := ∀ {B H0 : Hp} {σ : L2.St} {δ : Dl} {H Hs : Hp} {Q : List D → Dl → Prop} {R' : It → Hp → Prop}, Rep K B H0 σ δ H Hs → t δ Q →
  (∀ J xs δ' H' Hs', Rep K B H0 σ δ' H' Hs' → Ex Hs Hs' → ItOk K J xs Hs' → Q xs δ' → R' J H') → wi σ H R'
structure JI (X : Cx) (tg iter : Expr) (u : TI) (t : TDI) : Prop where
  p : PI X tg iter u
  s : SimI X.K u t
section
variable {X : Cx} {e a b tg : Expr} {es : List Expr} {pos : Pos} {t ta tb : TDE} {ue ua ub : TE} {us : TA} {vt : TT} {g : TG} {dg : TDG} {sts : List Stmt} {w : TS} {s : TDS} {wi : TI} {ti : TDI}
def iLst (t : TDE) : TDI := fun δ Q => t δ fun d δ' => ∃ xs, d = .list xs ∧ Q xs δ'
theorem it_list {K : PySem.W.Frag} {Hs : Hp} {a : Addr} {vs : List V} {xs : List D} (h : SqL K Hs a vs) (ha : DpAll K Hs vs xs) : ItOk K (Itl K a) xs Hs := fun i H Hs1 e1 e2 =>
  ⟨fun hi => ⟨vs, (e1.trans e2).sl h, by rw [dpAll_len ha]; exact hi⟩, fun d hd => by
    obtain ⟨v, hv, r⟩ := dpAll_get ha hd
    refine ⟨⟨vs, v, (e1.trans e2).sl h, hv⟩, fun x H' ⟨e, y⟩ => ?_⟩
    subst e
    have z := y vs ((e1.trans e2).sl h)
    rw [hv] at z
    cases z
    exact ⟨Hs1, PExt.refl e2, dp_mono e1 r⟩⟩
theorem it_tup {K : PySem.W.Frag} {Hs : Hp} {a : Addr} {vs : List V} {xs : List D} (h : SqT K Hs a vs) (ha : DpAll K Hs vs xs) : ItOk K (Itt K a) xs Hs := fun i H Hs1 e1 e2 =>
  ⟨fun hi => ⟨vs, (e1.trans e2).st h, by rw [dpAll_len ha]; exact hi⟩, fun d hd => by
    obtain ⟨v, hv, r⟩ := dpAll_get ha hd
    refine ⟨⟨vs, v, (e1.trans e2).st h, hv⟩, fun x H' ⟨e, y⟩ => ?_⟩
    subst e
    have z := y vs ((e1.trans e2).st h)
    rw [hv] at z
    cases z
    exact ⟨Hs1, PExt.refl e2, dp_mono e1 r⟩⟩
theorem ji_list (h : JE X e ue t) : JI X tg e (iList X.K ue) (iLst t) := ⟨pi_list h.p, fun R q k => h.s R q fun v d δ1 H1 Hs1 R1 e1 r1 ⟨xs, e, q1⟩ => by
  subst e
  cases r1 with
  | @lst a vs ds hs ha => exact ⟨a, rfl, ⟨vs, R1.ex.sl hs⟩, k _ _ _ _ _ R1 e1 (it_list hs ha) q1⟩⟩
def iTupD (t : TDE) : TDI := fun δ Q => t δ fun d δ' => ∃ xs, d = .tuple xs ∧ Q xs δ'
theorem ji_tup (h : JE X e ue t) : JI X tg e (iTup X.K ue) (iTupD t) := ⟨pi_tup h.p, fun R q k => h.s R q fun v d δ1 H1 Hs1 R1 e1 r1 ⟨xs, e, q1⟩ => by
  subst e
  cases r1 with
  | @tup a vs ds hs ha => exact ⟨a, rfl, ⟨vs, R1.ex.st hs⟩, k _ _ _ _ _ R1 e1 (it_tup hs ha) q1⟩⟩
def rngD (lo : Int) (n : Nat) : List D := (List.range n).map fun (i : Nat) => PyData.int (lo + (i : Int))
theorem it_rng {K : PySem.W.Frag} {Hs : Hp} (lo : Int) (n : Nat) : ItOk K (Itr lo n) (rngD lo n) Hs := fun i H Hs1 e1 e2 =>
  ⟨fun hi => by
    unfold rngD at hi
    rw [List.length_map, List.length_range] at hi
    exact hi, fun d hd => by
    unfold rngD at hd
    rw [List.getElem?_map] at hd
    by_cases hi : i < n
    · rw [List.getElem?_range hi] at hd
      cases hd
      exact ⟨hi, fun x H' ⟨e, y⟩ => by
        subst e y
        exact ⟨Hs1, PExt.refl e2, .int _⟩⟩
    · rw [List.getElem?_eq_none (by rw [List.length_range]; omega)] at hd
      cases hd⟩
def iRg1 (t : TDL) : TDI := fun δ Q => t δ fun ds δ' => ∃ n : Int, ds = [.int n] ∧ n ≤ 1000000 ∧ -1000000 ≤ n ∧ Q (rngD 0 n.toNat) δ'
theorem ji_range1 {p p2 : Pos} {u : TDL} (hg : Gl X "range") (hm : X.mg "range" = none) (ha : JA X [a] us u) (hs : starEach [a] X.env = [(false, eval a X.env)] := by rfl) : JI X tg (.Call (.Name "range" p) [a] [] p2) (iRng1 us) (iRg1 u) :=
  ⟨pi_range1 hg hm ha.p hs, fun R q k => ha.s R q fun vs ds δ1 H1 Hs1 R1 e1 r1 ⟨n, e, h1, h2, q1⟩ => by
    subst e
    cases r1 with
    | cons r1 r2 =>
      cases r1
      cases r2
      exact ⟨n, rfl, by omega, by omega, k _ _ _ _ _ R1 e1 (it_rng 0 n.toNat) q1⟩⟩
def iRg2 (t : TDL) : TDI := fun δ Q => t δ fun ds δ' => ∃ m n : Int, ds = [.int m, .int n] ∧ (n ≤ 1000000 ∧ -1000000 ≤ n ∧ m ≤ 1000000 ∧ -1000000 ≤ m) ∧ Q (rngD m (n - m).toNat) δ'
theorem ji_range2 {p p2 : Pos} {u : TDL} (hg : Gl X "range") (hm : X.mg "range" = none) (ha : JA X [a, b] us u) (hs : starEach [a, b] X.env = [(false, eval a X.env), (false, eval b X.env)] := by rfl) (hs2 : starEach [b] X.env = [(false, eval b X.env)] := by rfl) : JI X tg (.Call (.Name "range" p) [a, b] [] p2) (iRng2 us) (iRg2 u) :=
  ⟨pi_range2 hg hm ha.p hs hs2, fun R q k => ha.s R q fun vs ds δ1 H1 Hs1 R1 e1 r1 ⟨m, n, e, h1, q1⟩ => by
    subst e
    cases r1 with
    | cons r1 r2 =>
      cases r2 with
      | cons r2 r3 =>
        cases r1
        cases r2
        cases r3
        exact ⟨m, n, rfl, by omega, k _ _ _ _ _ R1 e1 (it_rng m (n - m).toNat) q1⟩⟩
def sForGo (dg : TDG) (s : TDS) (D0 : DEnds) : List D → Dl → Prop
  | [], δ => D0.nx δ
  | x :: xs, δ => dg x δ fun δ1 => s { D0 with nx := sForGo dg s D0 xs, ct := sForGo dg s D0 xs, bk := D0.nx } δ1
def sFor (ti : TDI) (dg : TDG) (s : TDS) : TDS := fun D δ => ti δ fun xs δ' => sForGo dg s D xs δ'
theorem js_for (hc : X.calm = true) (hi : JI X tg a wi ti) (hg : JG X tg g dg) (hb : JSs X sts w s) (hs : ∀ x, foldedSetIterable a X.env x = pure x := by intro _; rfl) (hp : PassesOwn (model X.prog X.w) X.A X.env X.xe := by exact PassesOwn.never) : JS X (.For tg a sts [] pos) (tFor wi g w) (sFor ti dg s) := by
  refine ⟨ps_for hp hc hi.p hg.p hb.p hs, ?_⟩
  intro B H0 σ δ H Hs D0 D' R q k
  refine hi.s R q fun J xs δ1 H1 Hs1 R1 e1 it q1 => ?_
  have k1 := k.mono e1
  refine ⟨fun i m σ' H' => m + i = xs.length ∧ ∃ δ' Hs', Rep X.K B H0 σ' δ' H' Hs' ∧ Ex Hs1 Hs' ∧ sForGo dg s D0 (xs.drop i) δ', ⟨xs.length, by omega, δ1, Hs1, R1, Ex.refl _, q1⟩, ?_⟩
  rintro i m σ' H' ⟨hm, δ', Hs', R', e', q'⟩
  obtain ⟨h1, h2⟩ := it i H' Hs' e' R'.ex
  by_cases hi' : i < xs.length
  · obtain ⟨go, yl⟩ := h2 xs[i] (List.getElem?_eq_getElem hi')
    rw [List.drop_eq_getElem_cons hi'] at q'
    refine .inr ⟨go, fun σ2 H2 => ∃ δ2 Hs2, Rep X.K B H0 σ2 δ2 H2 Hs2 ∧ Ex Hs1 Hs2 ∧ sForGo dg s D0 (xs.drop (i + 1)) δ2, fun σ2 H2 ⟨δ2, Hs2, R2, e2, q2⟩ => ⟨m - 1, by omega, by omega, δ2, Hs2, R2, e2, q2⟩, fun x H2 y => ?_⟩
    obtain ⟨Hs2, x2, r2⟩ := yl x H2 y
    refine hg.s (R'.ext x2) r2 q' fun σ3 δ3 R3 q3 => ?_
    have e3 := e'.trans x2.s
    exact hb.s R3 q3 ⟨fun σ4 δ4 H4 Hs4 R4 e4 q4 => ⟨δ4, Hs4, R4, e3.trans e4, q4⟩, (k1.mono e3).rt, (k1.mono e3).rn, (k1.mono e3).nx, fun σ4 δ4 H4 Hs4 R4 e4 q4 => ⟨δ4, Hs4, R4, e3.trans e4, q4⟩⟩
  · have ed : xs.drop i = [] := List.drop_eq_nil_of_le (by omega)
    rw [ed] at q'
    exact .inl ⟨h1 (by omega), k1.nx _ _ _ _ R' e' q'⟩
def sWhile (tc : TDB) (s : TDS) : TDS := fun D δ => ∃ W : Nat → Dl → Prop, (∃ m, W m δ) ∧ ∀ m δ, W m δ → tc δ fun b δ1 => if b = true then s { D with nx := fun δ' => ∃ m', m' < m ∧ W m' δ', ct := fun δ' => ∃ m', m' < m ∧ W m' δ', bk := D.nx } δ1 else D.nx δ1
theorem js_while {c : Expr} {tc : TDB} (hc : JT X c vt tc) (hb : JSs X sts w s) (hp : PassesOwn (model X.prog X.w) X.A X.env X.xe := by exact PassesOwn.never) : JS X (.While c sts [] pos) (tWhile vt w) (sWhile tc s) := by
  refine ⟨ps_while hp hc.p hb.p, ?_⟩
  intro B H0 σ δ H Hs D0 D' R q k
  obtain ⟨W, ⟨m0, w0⟩, turn⟩ := q
  refine ⟨fun m σ' H' => ∃ δ' Hs', Rep X.K B H0 σ' δ' H' Hs' ∧ Ex Hs Hs' ∧ W m δ', ⟨m0, δ, Hs, R, Ex.refl _, w0⟩, ?_⟩
  rintro m σ' H' ⟨δ', Hs', R', e', w'⟩
  refine hc.s R' (turn m δ' w') fun c δ1 H1 Hs1 R1 e1 q1 => ?_
  cases c with
  | true =>
    rw [if_pos rfl] at q1 ⊢
    have e2 := e'.trans e1
    refine ⟨fun σ2 H2 => ∃ δ2 Hs2, Rep X.K B H0 σ2 δ2 H2 Hs2 ∧ Ex Hs Hs2 ∧ ∃ m', m' < m ∧ W m' δ2, fun σ2 H2 ⟨δ2, Hs2, R2, e3, n2⟩ => ?_, ?_⟩
    · obtain ⟨m', hm, w2⟩ := n2
      exact ⟨m', hm, δ2, Hs2, R2, e3, w2⟩
    · exact hb.s R1 q1 ⟨fun σ4 δ4 H4 Hs4 R4 e4 q4 => ⟨δ4, Hs4, R4, e2.trans e4, q4⟩, (k.mono e2).rt, (k.mono e2).rn, (k.mono e2).nx, fun σ4 δ4 H4 Hs4 R4 e4 q4 => ⟨δ4, Hs4, R4, e2.trans e4, q4⟩⟩
  | false =>
    rw [if_neg Bool.false_ne_true] at q1 ⊢
    exact k.nx _ _ _ _ R1 (e'.trans e1) q1
def wipeD (δ : Dl) : List Nat → Dl
  | [] => δ
  | v :: vs => (wipeD δ vs).set v .un
def mixD (δ2 δ : Dl) : List Nat → Dl
  | [] => δ2
  | v :: vs => (mixD δ2 δ vs).set v (δ[v]?.getD .un)
def mixS (σ2 σ : L2.St) : List Nat → L2.St
  | [] => σ2
  | v :: vs => (mixS σ2 σ vs).set v (σ[v]?.getD none)
def isOw : SD → Bool
  | .ow _ _ => true
  | _ => false
theorem Rep.setUn {K : PySem.W.Frag} {B H0 H Hs : Hp} {σ : L2.St} {δ : Dl} (R : Rep K B H0 σ δ H Hs) (i : Nat) (x : Option V) : Rep K B H0 (σ.set i x) (δ.set i .un) H Hs where
  len := by rw [List.length_set, List.length_set, R.len]
  ex := R.ex
  base := R.base
  frz := R.frz
  frs := R.frs
  sl := by
    obtain ⟨fps, F⟩ := R.sl
    refine ⟨fun j b => j ≠ i ∧ fps j b, fun j s hs => ?_, fun j hj b hb => F.out j (by rw [List.length_set] at hj; exact hj) b hb.2, fun j k b h1 h2 => F.dj j k b h1.2 h2.2⟩
    by_cases hj : i = j
    · subst hj
      have hl : i < δ.length := by
        have := (List.getElem?_eq_some_iff.mp hs).1
        rw [List.length_set] at this
        exact this
      rw [List.getElem?_set_self hl] at hs
      cases hs
      exact ⟨x, List.getElem?_set_self (by rw [R.len]; exact hl), fun b hb => hb.1 rfl⟩
    · rw [List.getElem?_set_ne hj] at hs
      obtain ⟨x, e, q⟩ := F.sl j s hs
      refine ⟨x, by rw [List.getElem?_set_ne hj]; exact e, ?_⟩
      have : (fun b => j ≠ i ∧ fps j b) = fps j := funext fun b => propext ⟨fun z => z.2, fun z => ⟨fun z => hj z.symm, z⟩⟩
      rw [this]
      exact q
theorem Rep.wipe {K : PySem.W.Frag} {B H0 H Hs : Hp} {σ : L2.St} {δ : Dl} (R : Rep K B H0 σ δ H Hs) : ∀ vs : List Nat, Rep K B H0 (L2.wipe σ vs) (wipeD δ vs) H Hs
  | [] => R
  | v :: vs => (R.wipe vs).setUn v none
theorem Rep.mix {K : PySem.W.Frag} {B H0 H Hs H2 Hs2 : Hp} {σ σ2 : L2.St} {δ δ2 : Dl} (R : Rep K B H0 σ δ H Hs) (R2 : Rep K B H0 σ2 δ2 H2 Hs2) (e : Ex Hs Hs2) : ∀ vs : List Nat, (∀ v ∈ vs, ∃ s, δ[v]? = some s ∧ isOw s = false) → Rep K B H0 (mixS σ2 σ vs) (mixD δ2 δ vs) H2 Hs2
  | [], _ => R2
  | v :: vs, h => by
    have ih := R.mix R2 e vs fun u hu => h u (List.mem_cons_of_mem _ hu)
    obtain ⟨s, hs, ho⟩ := h v List.mem_cons_self
    obtain ⟨fps, F⟩ := R.sl
    obtain ⟨x, ex, r⟩ := F.sl v s hs
    show Rep K B H0 ((mixS σ2 σ vs).set v (σ[v]?.getD none)) ((mixD δ2 δ vs).set v (δ[v]?.getD .un)) H2 Hs2
    rw [hs, ex]
    cases s with
    | un => exact ih.setUn v x
    | dt d =>
      cases x with
      | none => exact r.elim
      | some y => exact ih.set (dp_mono e r.1) v
    | ow p o => cases ho
theorem mixS_len (σ2 σ : L2.St) : ∀ vs, (mixS σ2 σ vs).length = σ2.length
  | [] => rfl
  | v :: vs => by
    unfold mixS
    rw [List.length_set, mixS_len σ2 σ vs]
theorem mixS_get {σ2 σ : L2.St} (hl : σ2.length = σ.length) {i : Nat} (hi : i < σ.length) : ∀ vs : List Nat, (mixS σ2 σ vs)[i]? = if i ∈ vs then σ[i]? else σ2[i]?
  | [] => by rw [if_neg (by simp)]; rfl
  | v :: vs => by
    show ((mixS σ2 σ vs).set v (σ[v]?.getD none))[i]? = _
    by_cases hv : v = i
    · subst hv
      rw [List.getElem?_set_self (by rw [mixS_len, hl]; exact hi), if_pos List.mem_cons_self, List.getElem?_eq_getElem hi]
      rfl
    · rw [List.getElem?_set_ne hv, mixS_get hl hi vs]
      by_cases hm : i ∈ vs
      · rw [if_pos hm, if_pos (List.mem_cons_of_mem _ hm)]
      · rw [if_neg hm, if_neg (fun z => by rcases List.mem_cons.mp z with z | z; exact hv z.symm; exact hm z)]
theorem mixS_eq {σ2 σ : L2.St} {vs : List Nat} (h : L2.wipe σ2 vs = L2.wipe σ vs) : mixS σ2 σ vs = σ := by
  have hl : σ2.length = σ.length := by
    have := congrArg List.length h
    rw [wipe_length, wipe_length] at this
    exact this
  refine List.ext_getElem? fun i => ?_
  by_cases hi : i < σ.length
  · rw [mixS_get hl hi vs]
    by_cases hm : i ∈ vs
    · rw [if_pos hm]
    · rw [if_neg hm]
      have := congrArg (fun l => l[i]?) h
      simp only [wipe_out hm] at this
      exact this
  · rw [List.getElem?_eq_none (by rw [mixS_len, hl]; omega), List.getElem?_eq_none (by omega)]
def dLcGo (dg : TDG) (tt : TDB) (te : TDE) (vs : List Nat) (Q : List D → Dl → Prop) : List D → List D → Dl → Prop
  | [], acc, δ => Q acc δ
  | x :: xs, acc, δ => dg x (wipeD δ vs) fun δ1 => tt δ1 fun b δ2 => if b = true then te δ2 fun y δ3 => acc.length ≤ 100000 ∧ dLcGo dg tt te vs Q xs (acc ++ [y]) (mixD δ3 δ vs) else dLcGo dg tt te vs Q xs acc (mixD δ2 δ vs)
def dLc (ti : TDI) (dg : TDG) (tt : TDB) (te : TDE) (vs : List Nat) : TDL := fun δ Q => (∀ v ∈ vs, ∃ s, δ[v]? = some s ∧ isOw s = false) ∧ ti δ fun xs δ' => (∀ v ∈ vs, ∃ s, δ'[v]? = some s ∧ isOw s = false) ∧ dLcGo dg tt te vs Q xs [] δ'
theorem wipe_own {σ : L2.St} {i : Nat} {x : Option V} : ∀ {vs : List Nat}, i ∈ vs → L2.wipe ((L2.wipe σ vs).set i x) vs = L2.wipe σ vs := by
  intro vs hi
  refine List.ext_getElem? fun j => ?_
  have key : ∀ (us : List Nat) (τ : L2.St), j ∈ us → j < τ.length → (L2.wipe τ us)[j]? = some none := by
    intro us
    induction us with
    | nil => intro τ h; simp at h
    | cons v us ih =>
      intro τ h hl
      show ((L2.wipe τ us).set v none)[j]? = some none
      by_cases hv : v = j
      · subst hv
        rw [List.getElem?_set_self (by rw [wipe_length]; exact hl)]
      · rw [List.getElem?_set_ne hv]
        rcases List.mem_cons.mp h with z | z
        · exact absurd z.symm hv
        · exact ih τ z hl
  by_cases hj : j ∈ vs
  · by_cases hl : j < σ.length
    · rw [key vs _ hj (by rw [List.length_set, wipe_length]; exact hl), key vs _ hj hl]
    · rw [List.getElem?_eq_none (by rw [wipe_length, List.length_set, wipe_length]; omega), List.getElem?_eq_none (by rw [wipe_length]; omega)]
  · rw [wipe_out hj, List.getElem?_set_ne (fun (z : i = j) => hj (z ▸ hi)), wipe_out hj]
theorem sim_lc {K : PySem.W.Frag} {i : Nat} {vt : TT} {ue : TE} {tt : TDB} {te : TDE} {vs : List Nat} (hi : SimI K wi ti) (ht : SimT K vt tt) (he : SimE K ue te) (hv : i ∈ vs) : SimN K (tLc wi (gName i) vt ue vs) (dLc ti (dgName i) tt te vs) := by
  intro B H0 σ δ H Hs Q Q' R q k
  obtain ⟨_, q⟩ := q
  refine hi R q fun J xs δ1 H1 Hs1 R1 e1 it ⟨ho, q1⟩ => ?_
  intro p hp
  have hB : B p = none := R1.base.none hp
  have hH0 : H0 p = none := R1.frz.none (R1.ex.none hp)
  refine ⟨fun j m H' => m + j = xs.length ∧ ∃ δ' Hs' acc vacc, Rep K (upd B p (.lst vacc)) H0 σ δ' H' Hs' ∧ Ex Hs1 Hs' ∧ DpAll K Hs' vacc acc ∧ (∀ v ∈ vs, ∃ s, δ'[v]? = some s ∧ isOw s = false) ∧ dLcGo (dgName i) tt te vs Q (xs.drop j) acc δ',
    ⟨xs.length, by omega, δ1, Hs1, [], [], R1.hide hp, Ex.refl _, .nil, ho, q1⟩, ?_⟩
  rintro j m H' ⟨hm, δ', Hs', acc, vacc, R', e', ha, ho', q'⟩
  obtain ⟨h1, h2⟩ := it j H' Hs' e' R'.ex
  by_cases hj : j < xs.length
  · obtain ⟨go, yl⟩ := h2 xs[j] (List.getElem?_eq_getElem hj)
    rw [List.drop_eq_getElem_cons hj] at q'
    refine .inr ⟨go, fun H2 => ∃ δ2 Hs2 acc vacc, Rep K (upd B p (.lst vacc)) H0 σ δ2 H2 Hs2 ∧ Ex Hs1 Hs2 ∧ DpAll K Hs2 vacc acc ∧ (∀ v ∈ vs, ∃ s, δ2[v]? = some s ∧ isOw s = false) ∧ dLcGo (dgName i) tt te vs Q (xs.drop (j + 1)) acc δ2,
      fun H2 ⟨δ2, Hs2, acc2, vacc2, R2, e2, a2, o2, q2⟩ => ⟨m - 1, by omega, by omega, δ2, Hs2, acc2, vacc2, R2, e2, a2, o2, q2⟩, fun x H2 y => ?_⟩
    obtain ⟨Hs2, x2, r2⟩ := yl x H2 y
    have R2 := R'.ext x2
    have R3 := (R2.wipe vs).set r2 i
    have hw : L2.wipe ((L2.wipe σ vs).set i (some x)) vs = L2.wipe σ vs := wipe_own hv
    refine ⟨hw, ht R3 q' fun c δ4 H4 Hs4 R4 e4 q4 => ?_⟩
    have mono : ∀ {δx : Dl}, (∀ v ∈ vs, ∃ s, (mixD δx δ' vs)[v]? = some s ∧ isOw s = false) ↔ (∀ v ∈ vs, ∃ s, (mixD δx δ' vs)[v]? = some s ∧ isOw s = false) := Iff.rfl
    have keep : ∀ {δx : Dl} {us : List Nat}, δx.length = δ'.length → (∀ v ∈ us, v ∈ vs) → ∀ v ∈ us, ∃ s, (mixD δx δ' us)[v]? = some s ∧ isOw s = false := by
      intro δx us hl
      have ml : ∀ us, (mixD δx δ' us).length = δx.length := by
        intro us
        induction us with
        | nil => rfl
        | cons v us ih =>
          show ((mixD δx δ' us).set v _).length = _
          rw [List.length_set, ih]
      induction us with
      | nil =>
        intro _ v hv
        simp at hv
      | cons u us ih =>
        intro hsub v hv
        show ∃ s, ((mixD δx δ' us).set u (δ'[u]?.getD .un))[v]? = some s ∧ isOw s = false
        obtain ⟨s, hs, hso⟩ := ho' u (hsub u List.mem_cons_self)
        have hul : u < δ'.length := lt_of_get hs
        by_cases huv : u = v
        · subst huv
          rw [List.getElem?_set_self (by rw [ml, hl]; exact hul), hs]
          exact ⟨s, rfl, hso⟩
        · rw [List.getElem?_set_ne huv]
          rcases List.mem_cons.mp hv with z | z
          · exact absurd z.symm huv
          · exact ih (fun w hw => hsub w (List.mem_cons_of_mem _ hw)) v z
    cases c with
    | true =>
      rw [if_pos rfl] at q4 ⊢
      refine he R4 q4 fun z d δ5 H5 Hs5 R5 e5 r5 ⟨hlen, q5⟩ => ?_
      refine ⟨vacc, R5.at_p, by rw [dpAll_len ha]; exact lt_line hlen, ?_⟩
      have R6 := R2.mix R5 (e4.trans e5) vs ho'
      rw [mixS_eq hw] at R6
      have hl5 : δ5.length = δ'.length := by
        have a1 := R5.len
        have a2 := R2.len
        rw [List.length_set, wipe_length] at a1
        omega
      have e6 := (x2.s.trans e4).trans e5
      exact ⟨mixD δ5 δ' vs, Hs5, acc ++ [d], vacc ++ [z], R6.hset hH0, e'.trans e6, dpAll_app (dpAll_mono e6 ha) (.cons r5 .nil), keep hl5 (fun _ h => h), q5⟩
    | false =>
      rw [if_neg Bool.false_ne_true] at q4 ⊢
      have R6 := R2.mix R4 e4 vs ho'
      rw [mixS_eq hw] at R6
      have hl5 : δ4.length = δ'.length := by
        have a1 := R4.len
        have a2 := R2.len
        rw [List.length_set, wipe_length] at a1
        omega
      have e6 := x2.s.trans e4
      exact ⟨mixD δ4 δ' vs, Hs4, acc, vacc, R6, e'.trans e6, dpAll_mono e6 ha, keep hl5 (fun _ h => h), q4⟩
  · have ed : xs.drop j = [] := List.drop_eq_nil_of_le (by omega)
    rw [ed] at q'
    exact .inl ⟨h1 (by omega), k _ _ _ _ _ _ R' hB hH0 (e1.trans e') ha q'⟩
def dYes : TDB := fun δ Q => Q true δ
theorem sim_yes {K : PySem.W.Frag} : SimT K tYes dYes := fun R h k => k _ _ _ _ R (Ex.refl _) h
abbrev Bk (X : Cx) (s : Shared) (H : Hp) (scope : Scope) (C : Addr) (cl : List (Str × Addr)) (fp : List Addr) : Cx := X.blk s H scope (compEnvC scope cl C X.env) fp
section
variable {x : Str} {i : Nat} {iter elt : Expr} {ifs : List Expr} {scope : Scope} {p1 : Pos} {tt : TDB} {te : TDE} {uf : Shared → Hp → Addr → List (Str × Addr) → List Addr → TE} {vf : Shared → Hp → Addr → List (Str × Addr) → List Addr → TT}
theorem jn_lc (hc : X.calm = true) (hN : X.N.Nodup) (hi : JI X (.Name x p1) iter wi ti) (ok : BlkOk X.N X.env.scope scope [(x, i)])
    (hg : ∀ (s : Shared) (H : Hp) (C : Addr) (cl : List (Str × Addr)) (fp : List Addr), PG (Bk X s H scope C cl fp) (.Name x p1) (gName i))
    (he : ∀ (s : Shared) (H : Hp) (C : Addr) (cl : List (Str × Addr)) (fp : List Addr), JE (Bk X s H scope C cl fp) elt (uf s H C cl fp) te) (hu : ∀ (s : Shared) (H : Hp) (C : Addr) (cl : List (Str × Addr)) (fp : List Addr), uf s H C cl fp = uf X.s_0 X.H_0 0 [] [] := by intros; rfl) (hs : ∀ x, foldedSetIterable iter X.env x = pure x := by intro _; rfl) :
    JN X (.ListComp elt [⟨.Name x p1, iter, [], 0⟩] scope pos) (tLc wi (gName i) tYes (uf X.s_0 X.H_0 0 [] []) [i]) (dLc ti (dgName i) dYes te [i]) :=
  ⟨pe_lc (own := [(x, i)]) hc hN hi.p ok hg (fun _ _ _ _ _ => pts_nil) (fun s H C cl fp => hu s H C cl fp ▸ (he s H C cl fp).p) hs, sim_lc hi.s sim_yes (he X.s_0 X.H_0 0 [] []).s List.mem_cons_self⟩
theorem jn_lcIf {c : Expr} (hc : X.calm = true) (hN : X.N.Nodup) (hi : JI X (.Name x p1) iter wi ti) (ok : BlkOk X.N X.env.scope scope [(x, i)])
    (hg : ∀ (s : Shared) (H : Hp) (C : Addr) (cl : List (Str × Addr)) (fp : List Addr), PG (Bk X s H scope C cl fp) (.Name x p1) (gName i))
    (ht : ∀ (s : Shared) (H : Hp) (C : Addr) (cl : List (Str × Addr)) (fp : List Addr), JT (Bk X s H scope C cl fp) c (vf s H C cl fp) tt)
    (he : ∀ (s : Shared) (H : Hp) (C : Addr) (cl : List (Str × Addr)) (fp : List Addr), JE (Bk X s H scope C cl fp) elt (uf s H C cl fp) te) (hu : ∀ (s : Shared) (H : Hp) (C : Addr) (cl : List (Str × Addr)) (fp : List Addr), uf s H C cl fp = uf X.s_0 X.H_0 0 [] [] := by intros; rfl) (hv : ∀ (s : Shared) (H : Hp) (C : Addr) (cl : List (Str × Addr)) (fp : List Addr), vf s H C cl fp = vf X.s_0 X.H_0 0 [] [] := by intros; rfl) (hs : ∀ x, foldedSetIterable iter X.env x = pure x := by intro _; rfl) :
    JN X (.ListComp elt [⟨.Name x p1, iter, [c], 0⟩] scope pos) (tLc wi (gName i) (vf X.s_0 X.H_0 0 [] []) (uf X.s_0 X.H_0 0 [] []) [i]) (dLc ti (dgName i) tt te [i]) :=
  ⟨pe_lc (own := [(x, i)]) hc hN hi.p ok hg (fun s H C cl fp => pts_one (hv s H C cl fp ▸ (ht s H C cl fp).p)) (fun s H C cl fp => hu s H C cl fp ▸ (he s H C cl fp).p) hs, sim_lc hi.s (ht X.s_0 X.H_0 0 [] []).s (he X.s_0 X.H_0 0 [] []).s List.mem_cons_self⟩
theorem js_setLc {y : Str} {py p2 spos : Pos} {n : Nat} (hc : X.calm = true) (hN : X.N.Nodup) (hi : JI X (.Name x p1) iter wi ti) (ok : BlkOk X.N X.env.scope scope [(x, i)])
    (hg : ∀ (s : Shared) (H : Hp) (C : Addr) (cl : List (Str × Addr)) (fp : List Addr), PG (Bk X s H scope C cl fp) (.Name x p1) (gName i))
    (he : ∀ (s : Shared) (H : Hp) (C : Addr) (cl : List (Str × Addr)) (fp : List Addr), JE (Bk X s H scope C cl fp) elt (uf s H C cl fp) te) (hu : ∀ (s : Shared) (H : Hp) (C : Addr) (cl : List (Str × Addr)) (fp : List Addr), uf s H C cl fp = uf X.s_0 X.H_0 0 [] [] := by intros; rfl) (hy : X.N[n]? = some y := by rfl) (hyl : X.env.scope.names.lookup y = some .local := by rfl)
    (hsw : swapsWith (.ListComp elt [⟨.Name x p1, iter, [], 0⟩] scope p2) (some (.Name y py)) spos.line X.env = pure true := by exact sw_true rfl rfl rfl (by decide +kernel)) (hs : ∀ x, foldedSetIterable iter X.env x = pure x := by intro _; rfl) :
    JS X (.Assign [.Name y py] (.ListComp elt [⟨.Name x p1, iter, [], 0⟩] scope p2) spos) (tAsg (tLc wi (gName i) tYes (uf X.s_0 X.H_0 0 [] []) [i]) (gName n)) (sAsg (dN (dLc ti (dgName i) dYes te [i])) (dgName n)) := by
  have h := jn_lc (pos := p2) hc hN hi ok hg he hu hs
  refine ⟨ps_setLc (own := [(x, i)]) hc hN hy hyl hsw hi.p ok hg (fun _ _ _ _ _ => pts_nil) (fun s H C cl fp => hu s H C cl fp ▸ (he s H C cl fp).p) hs, fun R q k => ?_⟩
  exact (je_new h).s R q fun _ _ _ _ _ R1 x r q1 => k.nx _ _ _ _ (R1.set r n) x q1
theorem js_ownLc {y : Str} {py p2 spos : Pos} {n : Nat} (hc : X.calm = true) (hN : X.N.Nodup) (hi : JI X (.Name x p1) iter wi ti) (ok : BlkOk X.N X.env.scope scope [(x, i)])
    (hg : ∀ (s : Shared) (H : Hp) (C : Addr) (cl : List (Str × Addr)) (fp : List Addr), PG (Bk X s H scope C cl fp) (.Name x p1) (gName i))
    (he : ∀ (s : Shared) (H : Hp) (C : Addr) (cl : List (Str × Addr)) (fp : List Addr), JE (Bk X s H scope C cl fp) elt (uf s H C cl fp) te) (hu : ∀ (s : Shared) (H : Hp) (C : Addr) (cl : List (Str × Addr)) (fp : List Addr), uf s H C cl fp = uf X.s_0 X.H_0 0 [] [] := by intros; rfl) (hy : X.N[n]? = some y := by rfl) (hyl : X.env.scope.names.lookup y = some .local := by rfl)
    (hsw : swapsWith (.ListComp elt [⟨.Name x p1, iter, [], 0⟩] scope p2) (some (.Name y py)) spos.line X.env = pure true := by exact sw_true rfl rfl rfl (by decide +kernel)) (hs : ∀ x, foldedSetIterable iter X.env x = pure x := by intro _; rfl) :
    JS X (.Assign [.Name y py] (.ListComp elt [⟨.Name x p1, iter, [], 0⟩] scope p2) spos) (tAsg (tLc wi (gName i) tYes (uf X.s_0 X.H_0 0 [] []) [i]) (gName n)) (sOwn (dLc ti (dgName i) dYes te [i]) n) := by
  have h := jn_lc (pos := p2) hc hN hi ok hg he hu hs
  refine ⟨ps_setLc (own := [(x, i)]) hc hN hy hyl hsw hi.p ok hg (fun _ _ _ _ _ => pts_nil) (fun s H C cl fp => hu s H C cl fp ▸ (he s H C cl fp).p) hs, fun R q k => ?_⟩
  exact h.s R q fun p vs xs δ' H' Hs' R1 hB h0 x r ⟨hl, q1⟩ => k.nx _ _ _ _ (R1.own hB h0 r hl) x (q1 p)
end
end
end DL
namespace DL
open PySem PySem.Spec PyProof.Rows L2
abbrev DSp := List SD → (RS → List SD → Prop) → Prop
open Classical in
noncomputable def Bm (H : Hp) (fps : Nat → Foot) : Hp := fun b => if ∃ i, fps i b then none else H b
theorem bm_in {H : Hp} {fps : Nat → Foot} {b : Addr} {i : Nat} (h : fps i b) : Bm H fps b = none := by
  unfold Bm
  rw [if_pos ⟨i, h⟩]
theorem bm_out {H : Hp} {fps : Nat → Foot} {b : Addr} (h : ∀ i, ¬ fps i b) : Bm H fps b = H b := by
  unfold Bm
  rw [if_neg (fun ⟨i, z⟩ => h i z)]
theorem bm_ex {H : Hp} {fps : Nat → Foot} : Ex (Bm H fps) H := fun b o e => by
  by_cases h : ∃ i, fps i b
  · obtain ⟨i, h⟩ := h
    rw [bm_in h] at e
    cases e
  · rw [bm_out (fun i z => h ⟨i, z⟩)] at e
    exact e
def ResOk (K : PySem.W.Frag) (Bx Hs' H' : Hp) (fps' : Nat → Foot) (v : V) : RS → Prop
  | .dt d => Dp K Hs' v d
  | .new xs => ∃ p vs, v = .ref p ∧ Hs' p = none ∧ H' p = some (.lst vs) ∧ Bx p = none ∧ (∀ i, ¬ fps' i p) ∧ DpAll K Hs' vs xs
def spOf (K : PySem.W.Frag) (dsp : DSp) : Sp := fun vs H Q _ => ∃ (Hs : Hp) (as : List SD) (fps : Nat → Foot), vs.length = as.length ∧ Ex Hs H ∧ Fps K (Bm H fps) Hs H (vs.map some) as fps ∧
  dsp as fun d as' => ∀ (v : V) (H' Hs' : Hp) (fps' : Nat → Foot), Ex (Bm H fps) H' → Ex Hs Hs' → Ex Hs' H' → (∀ b, Hs' b ≠ none → Hs b = none → Bm H fps b = none) →
    (∀ i s, as'[i]? = some s → s = .un ∨ ∃ p o o', as[i]? = some (.ow p o) ∧ s = .ow p o' ∧ SRep K (Bm H fps) Hs' H' (fps' i) (some (.ref p)) (.ow p o')) → (∀ i j b, fps' i b → fps' j b → i = j) → ResOk K (Bm H fps) Hs' H' fps' v d → Q v H'
def oneOut : SD → SD → SD
  | .ow p _, .ow q o => if p = q then .ow q o else .un
  | _, _ => .un
def outs : List SD → Dl → List SD
  | a :: as, s :: ss => oneOut a s :: outs as ss
  | _, _ => []
theorem outs_get : ∀ {as : List SD} {ss : Dl} {i : Nat} {s : SD}, (outs as ss)[i]? = some s → s = .un ∨ ∃ p o o', as[i]? = some (.ow p o) ∧ s = .ow p o' ∧ ss[i]? = some (.ow p o')
  | [], _, _, _, h => by simp [outs] at h
  | _ :: _, [], _, _, h => by simp [outs] at h
  | a :: as, t :: ss, 0, s, h => by
    have h : some (oneOut a t) = some s := h
    cases h
    cases a with
    | un => exact .inl rfl
    | dt d => exact .inl rfl
    | ow p o =>
      cases t with
      | un => exact .inl rfl
      | dt d => exact .inl rfl
      | ow q o' =>
        by_cases e : p = q
        · subst e
          exact .inr ⟨p, o, o', rfl, (show (if p = p then SD.ow p o' else SD.un) = _ from if_pos rfl), rfl⟩
        · exact .inl (show (if p = q then SD.ow q o' else SD.un) = _ from if_neg e)
  | a :: as, t :: ss, i + 1, s, h => by
    have h : (outs as ss)[i]? = some s := h
    exact outs_get (i := i) h
def startD (n : Nat) (as : List SD) : Dl := as ++ List.replicate (n - as.length) .un
section
variable {P : Program} {w : World} {K : PySem.W.Frag} {mg : Str → Option Value} {base : Heap}
theorem fn_ok {x qual : Str} {st : Stmt} {f : Addr} {fd : FuncData} {N ps : List Str} {k : Nat} {dsp : DSp} (F : Fun K x qual st f fd) (S : FnScope N ps (defScope st)) (len : ∀ as Q, dsp as Q → as.length = ps.length) (hN : ps.length ≤ N.length)
    (body : ∀ (cdv : Value) (A : Around) (outer : List Env) (s : Shared) (H : Hp) (E : XK), Room k (A.deeper (envOfC qual (defScope st) s.heap.objs.size f cdv)) →
      ∃ u t, JSs (cxOf CX0 P w K mg base N qual (defScope st) f cdv A outer s H E).nox (defBody st) u t ∧ ∀ (as : List SD) (Q : RS → List SD → Prop), dsp as Q → t { nx := fun δ => Q (.dt .none) (outs as δ), rt := fun d δ => Q d (outs as δ) } (startD N.length as)) :
    FnOk P w K mg base CX0 (k + 1) f fd ps (spOf K dsp) := by
  refine F.ok S (fun vs H Q E h => ?_) (fun cdv A outer s H vs Q E hr h => ?_)
  · obtain ⟨Hs, as, fps, hl, _, _, hd⟩ := h
    rw [hl]
    exact len _ _ hd
  · obtain ⟨Hs, as, fps, hl, hx, F1, hd⟩ := h
    obtain ⟨u, t, J, q⟩ := body cdv A outer s H E hr
    have hal := len _ _ hd
    refine ⟨u, J.p, ?_⟩
    have R : Rep K (Bm H fps) Hs (L2.start N vs) (startD N.length as) H Hs := by
      refine ⟨?_, hx, bm_ex, Ex.refl _, fun b h1 h2 => absurd h2 h1, fps, fun i s hs => ?_, fun i hi => F1.out i ?_, F1.dj⟩
      · unfold L2.start startD
        rw [List.length_append, List.length_append, List.length_map, List.length_replicate, List.length_replicate, hl]
      · unfold startD at hs
        unfold L2.start
        by_cases hi : i < as.length
        · rw [List.getElem?_append_left hi] at hs
          obtain ⟨y, e, r⟩ := F1.sl i s hs
          exact ⟨y, by rw [List.getElem?_append_left (by rw [List.length_map, hl]; exact hi)]; exact e, r⟩
        · rw [List.getElem?_append_right (by omega)] at hs
          have hs2 := (List.getElem?_eq_some_iff.mp hs)
          obtain ⟨h3, h4⟩ := hs2
          rw [List.length_replicate] at h3
          rw [List.getElem_replicate] at h4
          subst h4
          refine ⟨none, ?_, F1.out i (by omega)⟩
          rw [List.getElem?_append_right (by rw [List.length_map, hl]; omega), List.length_map, hl, List.getElem?_replicate, if_pos h3]
      · unfold startD at hi
        rw [List.length_append] at hi
        omega
    have fin : ∀ (v : V) (d : RS) (σ' : L2.St) (δ' : Dl) (H' Hs' : Hp), Rep K (Bm H fps) Hs σ' δ' H' Hs' → Ex Hs Hs' → (∀ fps', Fps K (Bm H fps) Hs' H' σ' δ' fps' → ResOk K (Bm H fps) Hs' H' fps' v d) → (∀ (v : V) (H' Hs' : Hp) (fps' : Nat → Foot), Ex (Bm H fps) H' → Ex Hs Hs' → Ex Hs' H' → (∀ b, Hs' b ≠ none → Hs b = none → Bm H fps b = none) →
        (∀ i s, (outs as δ')[i]? = some s → s = .un ∨ ∃ p o o', as[i]? = some (.ow p o) ∧ s = .ow p o' ∧ SRep K (Bm H fps) Hs' H' (fps' i) (some (.ref p)) (.ow p o')) → (∀ i j b, fps' i b → fps' j b → i = j) → ResOk K (Bm H fps) Hs' H' fps' v d → Q v H') → ∀ fps', Fps K (Bm H fps) Hs' H' σ' δ' fps' → Q v H' := by
      intro v d σ' δ' H' Hs' R' e' r' q' fps' F'
      refine q' v H' Hs' fps' R'.base e' R'.ex R'.frs (fun i s hs => ?_) F'.dj (r' fps' F')
      rcases outs_get hs with h | ⟨p, o, o', h1, h2, h3⟩
      · exact .inl h
      · obtain ⟨y, e, r⟩ := F'.sl i _ h3
        cases y with
        | none => exact r.elim
        | some y =>
          obtain ⟨⟨e2, _⟩, _⟩ := id r
          subst e2
          exact .inr ⟨p, o, o', h1, h2, r⟩
    refine J.s R (q as _ hd) ⟨fun σ' δ' H' Hs' R' e' q' => ?_, fun v d σ' δ' H' Hs' R' e' r' q' => ?_, fun p vs' xs σ' δ' H' Hs' R' hB h0 e' r' q' => ?_, fun _ _ _ _ _ _ z => z.elim, fun _ _ _ _ _ _ z => z.elim⟩
    · obtain ⟨fps', F'⟩ := R'.sl
      exact fin .non (.dt .none) _ _ _ _ R' e' (fun _ _ => .non) q' fps' F'
    · obtain ⟨fps', F'⟩ := R'.sl
      exact fin v (.dt d) _ _ _ _ R' e' (fun _ _ => r') q' fps' F'
    · obtain ⟨fps', F'⟩ := R'.sl
      have np : ∀ i, ¬ fps' i p := fun i => F'.not_p i
      have F2 : Fps K (Bm H fps) Hs' H' σ' δ' fps' := ⟨fun i s hs => by
        obtain ⟨y, e1, r⟩ := F'.sl i s hs
        exact ⟨y, e1, r.base (ex_upd_B hB)⟩, F'.out, F'.dj⟩
      have R2 := R'.weaken (ex_upd_B hB)
      have hp := R'.at_p
      have hs0 := R'.hs_none h0
      refine q' (.ref p) H' Hs' fps' R2.base e' R2.ex R2.frs (fun i s hs => ?_) F2.dj ⟨p, vs', rfl, hs0, hp, hB, np, r'⟩
      rcases outs_get hs with h | ⟨p, o, o', h1, h2, h3⟩
      · exact .inl h
      · obtain ⟨y, e, r⟩ := F2.sl i _ h3
        cases y with
        | none => exact r.elim
        | some y =>
          obtain ⟨⟨e2, _⟩, _⟩ := id r
          subst e2
          exact .inr ⟨p, o, o', h1, h2, r⟩
end
abbrev Ent := Nat ⊕ D
abbrev TDC := Dl → (List Ent → Dl → Prop) → Prop
def EntOk (K : PySem.W.Frag) (Hs : Hp) (σ : L2.St) : V → Ent → Prop
  | v, .inl i => σ[i]? = some (some v)
  | v, .inr d => Dp K Hs v d
inductive Ents (K : PySem.W.Frag) (Hs : Hp) (σ : L2.St) : List V → List Ent → Prop
  | nil : Ents K Hs σ [] []
  | cons {v : V} {vs : List V} {e : Ent} {es : List Ent} : EntOk K Hs σ v e → Ents K Hs σ vs es → Ents K Hs σ (v :: vs) (e :: es)
theorem EntOk.mono {K : PySem.W.Frag} {Hs Hs' : Hp} {σ : L2.St} {v : V} {e : Ent} (h : EntOk K Hs σ v e) (x : Ex Hs Hs') : EntOk K Hs' σ v e := by
  cases e with
  | inl i => exact h
  | inr d => exact dp_mono x h
theorem Ents.len {K : PySem.W.Frag} {Hs : Hp} {σ : L2.St} {vs : List V} {es : List Ent} (h : Ents K Hs σ vs es) : vs.length = es.length := by
  induction h with
  | nil => rfl
  | cons _ _ ih => exact congrArg (· + 1) ih
theorem Ents.get {K : PySem.W.Frag} {Hs : Hp} {σ : L2.St} {vs : List V} {es : List Ent} (h : Ents K Hs σ vs es) : ∀ {i : Nat} {e : Ent}, es[i]? = some e → ∃ v, vs[i]? = some v ∧ EntOk K Hs σ v e := by
  induction h with
  | nil =>
    intro i e h
    simp at h
  | cons r t ih =>
    intro i e h
    cases i with
    | zero =>
      cases (show some _ = some e from h)
      exact ⟨_, rfl, r⟩
    | succ i => exact ih (i := i) h
def SimCl (K : PySem.W.Frag) (u : TA) (t : TDC) : Prop := ∀ {B H0 : Hp} {σ : L2.St} {δ : Dl} {H Hs : Hp} {Q : List Ent → Dl → Prop} {Q' : List V → Hp → Prop}, Rep K B H0 σ δ H Hs → t δ Q →
  (∀ vs es δ' H' Hs', Rep K B H0 σ δ' H' Hs' → Ex Hs Hs' → Ents K Hs' σ vs es → Q es δ' → Q' vs H') → u σ H Q'
structure JC (X : Cx) (es : List Expr) (u : TA) (t : TDC) : Prop where
  p : PA X es u
  s : SimCl X.K u t
section
variable {X : Cx} {e : Expr} {es : List Expr} {pos : Pos} {t : TDE} {ue : TE} {us ur : TA} {tc : TDC}
def cNil : TDC := fun δ Q => Q [] δ
def cCons (t : TDE) (u : TDC) : TDC := fun δ Q => t δ fun d δ1 => u δ1 fun es δ2 => Q (.inr d :: es) δ2
theorem jc_nil : JC X [] tNil cNil := ⟨pa_nil, fun R h k => k _ _ _ _ _ R (Ex.refl _) .nil h⟩
theorem jc_cons (ha : JE X e ue t) (hr : JC X es ur tc) (hs : starEach (e :: es) X.env = (false, eval e X.env) :: starEach es X.env := by rfl) : JC X (e :: es) (tCons ue ur) (cCons t tc) :=
  ⟨pa_cons ha.p hr.p hs, fun R h k => ha.s R h fun v d δ1 H1 Hs1 R1 e1 r1 h1 => hr.s R1 h1 fun vs es δ2 H2 Hs2 R2 e2 r2 h2 => k _ _ _ _ _ R2 (e1.trans e2) (Ents.cons (e := .inr d) (dp_mono e2 r1) r2) h2⟩
def cLendT (i : Nat) (u : TDC) : TDC := fun δ Q => (∃ p o, δ[i]? = some (.ow p o)) ∧ u δ fun es δ2 => Q (.inl i :: es) δ2
theorem jc_own (i : Nat) {x : Str} {p : Pos} (hr : JC X es ur tc) (hN : X.N[i]? = some x := by rfl) (hv : Vis X.env.scope x := by first | exact Or.inl rfl | exact Or.inr (Or.inl rfl) | exact Or.inr (Or.inr rfl)) (hd : (x == ("__debug__" : Str)) = false := by decide)
    (hcd : (x == ("__classdict__" : Str)) = false := by decide) (hs : starEach (.Name x p :: es) X.env = (false, eval (.Name x p) X.env) :: starEach es X.env := by rfl) : JC X (.Name x p :: es) (tCons (tVar i) ur) (cLendT i tc) :=
  ⟨pa_cons (pe_var hN hv hd hcd) hr.p hs, fun {B H0 σ δ H Hs Q Q'} R ⟨⟨q, o, ho⟩, h⟩ k => by
    obtain ⟨fps, F⟩ := R.sl
    obtain ⟨y, ey, r⟩ := F.sl i _ ho
    cases y with
    | none => exact r.elim
    | some v => exact ⟨v, ey, hr.s R h fun vs es δ2 H2 Hs2 R2 e2 r2 h2 => k _ _ _ _ _ R2 e2 (Ents.cons (e := .inl i) ey r2) h2⟩⟩
def resD (δ : Dl) : Ent → SD
  | .inl i => δ[i]?.getD .un
  | .inr d => .dt d
def bors : List Ent → List Nat
  | [] => []
  | .inl i :: es => i :: bors es
  | .inr _ :: es => bors es
def back : List Ent → List SD → Dl → Dl
  | .inl i :: es, s :: as, δ => (back es as δ).set i s
  | .inr _ :: es, _ :: as, δ => back es as δ
  | _, _, δ => δ
def dCallF (dsp : DSp) (t : TDC) : TDE := fun δ Q => t δ fun es δ' => (bors es).Nodup ∧ (∀ i ∈ bors es, i < δ'.length) ∧ ∀ Q2 : RS → List SD → Prop, (∀ d as', as'.length = es.length → Q d (back es as' δ') → Q2 (.dt d) as') → dsp (es.map (resD δ')) Q2
def dCallNw (dsp : DSp) (t : TDC) : TDL := fun δ Q => t δ fun es δ' => (bors es).Nodup ∧ (∀ i ∈ bors es, i < δ'.length) ∧ ∀ Q2 : RS → List SD → Prop, (∀ xs as', as'.length = es.length → Q xs (back es as' δ') → Q2 (.new xs) as') → dsp (es.map (resD δ')) Q2
theorem back_len : ∀ (es : List Ent) (as : List SD) (δ : Dl), (back es as δ).length = δ.length
  | [], _, _ => by simp [back]
  | .inl i :: es, [], _ => by simp [back]
  | .inr d :: es, [], _ => by simp [back]
  | .inl i :: es, s :: as, δ => by
    show ((back es as δ).set i s).length = _
    rw [List.length_set, back_len es as δ]
  | .inr d :: es, s :: as, δ => back_len es as δ
theorem mem_bors : ∀ {es : List Ent} {j : Nat}, j ∈ bors es ↔ ∃ k : Nat, es[k]? = some (Sum.inl j : Ent)
  | [], j => by simp [bors]
  | .inl i :: es, j => by
    show j ∈ i :: bors es ↔ _
    rw [List.mem_cons, mem_bors (es := es)]
    constructor
    · rintro (rfl | ⟨k, h⟩)
      · exact ⟨0, rfl⟩
      · exact ⟨k + 1, h⟩
    · rintro ⟨k, h⟩
      cases k with
      | zero =>
        cases (show some (Sum.inl i : Ent) = some (Sum.inl j) from h)
        exact .inl rfl
      | succ k => exact .inr ⟨k, h⟩
  | .inr d :: es, j => by
    show j ∈ bors es ↔ _
    rw [mem_bors (es := es)]
    constructor
    · rintro ⟨k, h⟩
      exact ⟨k + 1, h⟩
    · rintro ⟨k, h⟩
      cases k with
      | zero => cases (show some (Sum.inr d : Ent) = some (Sum.inl j) from h)
      | succ k => exact ⟨k, h⟩
theorem back_out : ∀ {es : List Ent} {as : List SD} {δ : Dl} {j : Nat}, j ∉ bors es → (back es as δ)[j]? = δ[j]?
  | [], _, _, _, _ => by simp [back]
  | .inl i :: es, [], _, _, _ => by simp [back]
  | .inr d :: es, [], _, _, _ => by simp [back]
  | .inl i :: es, s :: as, δ, j, h => by
    have h : j ∉ i :: bors es := h
    rw [List.mem_cons, not_or] at h
    show ((back es as δ).set i s)[j]? = _
    rw [List.getElem?_set_ne (fun z => h.1 z.symm), back_out h.2]
  | .inr d :: es, s :: as, δ, j, h => back_out (es := es) (as := as) h
theorem back_in : ∀ {es : List Ent} {as : List SD} {δ : Dl} {j k : Nat} {s : SD}, (bors es).Nodup → es[k]? = some (.inl j) → as[k]? = some s → j < δ.length → (back es as δ)[j]? = some s
  | [], _, _, _, _, _, _, h, _, _ => by simp at h
  | _ :: _, [], _, _, _, _, _, _, h, _ => by simp at h
  | .inl i :: es, a :: as, δ, j, k, s, nd, h1, h2, hj => by
    show ((back es as δ).set i a)[j]? = _
    cases k with
    | zero =>
      cases (show some (Sum.inl i : Ent) = some (Sum.inl j) from h1)
      cases (show some a = some s from h2)
      rw [List.getElem?_set_self (by rw [back_len]; exact hj)]
    | succ k =>
      have nd : (i :: bors es).Nodup := nd
      rw [List.nodup_cons] at nd
      have hm : j ∈ bors es := mem_bors.mpr ⟨k, h1⟩
      rw [List.getElem?_set_ne (fun (z : i = j) => nd.1 (z ▸ hm))]
      exact back_in nd.2 (k := k) h1 h2 hj
  | .inr d :: es, a :: as, δ, j, k, s, nd, h1, h2, hj => by
    cases k with
    | zero => cases (show some (Sum.inr d : Ent) = some (Sum.inl j) from h1)
    | succ k => exact back_in (es := es) (as := as) nd (k := k) h1 h2 hj
theorem bors_inj {es : List Ent} (nd : (bors es).Nodup) : ∀ {k k' j : Nat}, es[k]? = some (.inl j) → es[k']? = some (.inl j) → k = k' := by
  induction es with
  | nil =>
    intro k k' j h
    simp at h
  | cons x xs ih =>
    intro k k' j h1 h2
    cases x with
    | inl i =>
      have nd : (i :: bors xs).Nodup := nd
      rw [List.nodup_cons] at nd
      cases k with
      | zero =>
        cases k' with
        | zero => rfl
        | succ k' =>
          cases (show some (Sum.inl i : Ent) = some (Sum.inl j) from h1)
          exact absurd (mem_bors.mpr ⟨k', h2⟩) nd.1
      | succ k =>
        cases k' with
        | zero =>
          cases (show some (Sum.inl i : Ent) = some (Sum.inl j) from h2)
          exact absurd (mem_bors.mpr ⟨k, h1⟩) nd.1
        | succ k' => exact congrArg (· + 1) (ih nd.2 (k := k) (k' := k') h1 h2)
    | inr d =>
      cases k with
      | zero => cases (show some (Sum.inr d : Ent) = some (Sum.inl j) from h1)
      | succ k =>
        cases k' with
        | zero => cases (show some (Sum.inr d : Ent) = some (Sum.inl j) from h2)
        | succ k' => exact congrArg (· + 1) (ih nd (k := k) (k' := k') h1 h2)
theorem call_core {K : PySem.W.Frag} {dsp : DSp} {B H0 : Hp} {σ : L2.St} {Q' : VK} {vs : List V} {es : List Ent} {δ1 : Dl} {H1 Hs1 : Hp} {Qr : RS → Dl → Prop} (R1 : Rep K B H0 σ δ1 H1 Hs1) (r1 : Ents K Hs1 σ vs es) (nd : (bors es).Nodup) (hlt : ∀ i ∈ bors es, i < δ1.length)
    (hd : ∀ Q2 : RS → List SD → Prop, (∀ r as', as'.length = es.length → Qr r (back es as' δ1) → Q2 r as') → dsp (es.map (resD δ1)) Q2)
    (k : ∀ v r δ' H' Hs', Rep K B H0 σ δ' H' Hs' → Ex Hs1 Hs' → (∀ d, r = .dt d → Dp K Hs' v d) → (∀ xs, r = .new xs → ∃ p vs, v = .ref p ∧ Rep K (upd B p (.lst vs)) H0 σ δ' H' Hs' ∧ B p = none ∧ H0 p = none ∧ DpAll K Hs' vs xs) → Qr r δ' → Q' v H') : spOf K dsp vs H1 Q' E0 := by
  obtain ⟨fpsC, F⟩ := R1.sl
  let fpsA : Nat → Foot := fun k b => ∃ j, es[k]? = some (.inl j) ∧ fpsC j b
  have own : ∀ j b, fpsC j b → B b = none ∧ Hs1 b = none ∧ H1 b ≠ none := by
    intro j b hb
    by_cases hj : j < δ1.length
    · obtain ⟨x, ex, r⟩ := F.sl j δ1[j] (List.getElem?_eq_getElem hj)
      cases hsd : δ1[j] with
      | un =>
        rw [hsd] at r
        exact absurd hb (r b)
      | dt d =>
        rw [hsd] at r
        cases x with
        | none => exact r.elim
        | some v => exact absurd hb (r.2 b)
      | ow p o =>
        rw [hsd] at r
        cases x with
        | none => exact r.elim
        | some v => exact ⟨(r.2 b hb).2.1, (r.2 b hb).1, (r.2 b hb).2.2⟩
    · exact absurd hb (F.out j (by omega) b)
  have FA : Fps K (Bm H1 fpsA) Hs1 H1 (vs.map some) (es.map (resD δ1)) fpsA := by
    refine ⟨fun i s hi => ?_, fun i hi b ⟨j, hj, _⟩ => ?_, fun i i' b ⟨j, hj, hb⟩ ⟨j', hj', hb'⟩ => ?_⟩
    · rw [List.getElem?_map] at hi
      cases he : es[i]? with
      | none =>
        rw [he] at hi
        cases hi
      | some en =>
        rw [he] at hi
        cases (show some (resD δ1 en) = some s from hi)
        obtain ⟨v, hv, ro⟩ := r1.get he
        refine ⟨some v, by rw [List.getElem?_map, hv]; rfl, ?_⟩
        cases en with
        | inr d =>
          refine ⟨ro, fun b ⟨j, hj, _⟩ => ?_⟩
          rw [he] at hj
          cases hj
        | inl j =>
          have hjl := hlt j (mem_bors.mpr ⟨i, he⟩)
          obtain ⟨x, ex, r⟩ := F.sl j δ1[j] (List.getElem?_eq_getElem hjl)
          have er : resD δ1 (.inl j) = δ1[j] := by
            show (δ1[j]?).getD .un = _
            rw [List.getElem?_eq_getElem hjl]
            rfl
          rw [er]
          have ro' : σ[j]? = some (some v) := ro
          rw [ro'] at ex
          cases ex
          have efp : fpsA i = fpsC j := funext fun b => propext ⟨fun ⟨j', hj', hb⟩ => by
            rw [he] at hj'
            cases hj'
            exact hb, fun hb => ⟨j, he, hb⟩⟩
          cases hsd : δ1[j] with
          | un =>
            rw [hsd] at r
            rw [efp]
            exact r
          | dt d =>
            rw [hsd] at r
            rw [efp]
            exact r
          | ow p o =>
            rw [hsd] at r
            refine ⟨by rw [efp]; exact r.1, fun b hb => ⟨?_, bm_in hb, ?_⟩⟩
            · rw [efp] at hb
              exact (r.2 b hb).1
            · rw [efp] at hb
              exact (r.2 b hb).2.2
    · rw [List.length_map] at hi
      rw [List.getElem?_eq_none hi] at hj
      cases hj
    · have := F.dj j j' b hb hb'
      subst this
      exact bors_inj nd hj hj'
  refine ⟨Hs1, es.map (resD δ1), fpsA, by rw [List.length_map]; exact r1.len, R1.ex, FA, ?_⟩
  have key : ∀ d as', as'.length = es.length → Qr d (back es as' δ1) → ∀ (v : V) (H' Hs' : Hp) (fps' : Nat → Foot), Ex (Bm H1 fpsA) H' → Ex Hs1 Hs' → Ex Hs' H' → (∀ b, Hs' b ≠ none → Hs1 b = none → Bm H1 fpsA b = none) →
    (∀ i s, as'[i]? = some s → s = .un ∨ ∃ p o o', (es.map (resD δ1))[i]? = some (.ow p o) ∧ s = .ow p o' ∧ SRep K (Bm H1 fpsA) Hs' H' (fps' i) (some (.ref p)) (.ow p o')) → (∀ i j b, fps' i b → fps' j b → i = j) → ResOk K (Bm H1 fpsA) Hs' H' fps' v d → Q' v H' := by
    intro d as' hlen q v H' Hs' fps' x1 x2 x3 x4 x5 x6 r
    have notA : ∀ j b, j ∉ bors es → fpsC j b → ∀ k, ¬ fpsA k b := fun j b hj hb k ⟨j', hj', hb'⟩ => by
      have := F.dj j j' b hb hb'
      subst this
      exact hj (mem_bors.mpr ⟨k, hj'⟩)
    have FF : Fps K B Hs' H' σ (back es as' δ1) (fun j b => (∃ k, es[k]? = some (.inl j) ∧ (∃ s, as'[k]? = some s ∧ isOw s = true) ∧ fps' k b) ∨ (j ∉ bors es ∧ fpsC j b)) := by
      refine ⟨fun j s hj => ?_, fun j hj b hb => ?_, fun j j' b h1 h2 => ?_⟩
      · have hjl : j < δ1.length := by
          have := lt_of_get hj
          rw [back_len] at this
          exact this
        by_cases hm : j ∈ bors es
        · obtain ⟨k, hk⟩ := mem_bors.mp hm
          have hkl : k < as'.length := by
            rw [hlen]
            exact lt_of_get hk
          have hb := back_in nd hk (List.getElem?_eq_getElem hkl) hjl (as := as')
          rw [hb] at hj
          cases hj
          obtain ⟨x, ex, rx⟩ := F.sl j δ1[j] (List.getElem?_eq_getElem hjl)
          refine ⟨x, ex, ?_⟩
          rcases x5 k as'[k] (List.getElem?_eq_getElem hkl) with hu | ⟨p, o, o', hA, hs', S⟩
          · have nofp : ∀ b, ¬ ((∃ k, es[k]? = some (.inl j) ∧ (∃ s, as'[k]? = some s ∧ isOw s = true) ∧ fps' k b) ∨ (j ∉ bors es ∧ fpsC j b)) := by
              rintro b (⟨k', hk', ⟨s, hs, hso⟩, _⟩ | ⟨z, _⟩)
              · have := bors_inj nd hk hk'
                subst this
                rw [List.getElem?_eq_getElem hkl] at hs
                cases hs
                rw [hu] at hso
                cases hso
              · exact z hm
            rw [hu]
            exact nofp
          · have efp : (fun b => (∃ k, es[k]? = some (.inl j) ∧ (∃ s, as'[k]? = some s ∧ isOw s = true) ∧ fps' k b) ∨ (j ∉ bors es ∧ fpsC j b)) = fps' k := funext fun b => propext ⟨by
              rintro (⟨k', hk', _, hb⟩ | ⟨z, _⟩)
              · have := bors_inj nd hk hk'
                subst this
                exact hb
              · exact absurd hm z, fun hb => .inl ⟨k, hk, ⟨as'[k], List.getElem?_eq_getElem hkl, by rw [hs']; rfl⟩, hb⟩⟩
            rw [efp, hs']
            have hA' : some (resD δ1 (.inl j)) = some (SD.ow p o) := by
              rw [← hA, List.getElem?_map, hk]
              rfl
            have er : resD δ1 (.inl j) = δ1[j] := by
              show (δ1[j]?).getD .un = _
              rw [List.getElem?_eq_getElem hjl]
              rfl
            rw [er] at hA'
            have hd1 : δ1[j] = SD.ow p o := Option.some.inj hA'
            rw [hd1] at rx
            cases x with
            | none => exact rx.elim
            | some y =>
              obtain ⟨⟨ey, _⟩, _⟩ := rx
              subst ey
              refine ⟨S.1, fun b hb => ⟨(S.2 b hb).1, ?_, (S.2 b hb).2.2⟩⟩
              have h4 := (S.2 b hb).2.1
              by_cases h5 : ∃ k, fpsA k b
              · obtain ⟨k, j, _, hb⟩ := h5
                exact (own j b hb).1
              · rw [bm_out (fun k z => h5 ⟨k, z⟩)] at h4
                exact R1.base.none h4
        · rw [back_out hm] at hj
          obtain ⟨x, ex, rx⟩ := F.sl j s hj
          refine ⟨x, ex, ?_⟩
          have efp : (fun b => (∃ k, es[k]? = some (.inl j) ∧ (∃ s, as'[k]? = some s ∧ isOw s = true) ∧ fps' k b) ∨ (j ∉ bors es ∧ fpsC j b)) = fpsC j := funext fun b => propext ⟨by
            rintro (⟨k', hk', _⟩ | ⟨_, z⟩)
            · exact absurd (mem_bors.mpr ⟨k', hk'⟩) hm
            · exact z, fun hb => .inr ⟨hm, hb⟩⟩
          rw [efp]
          refine rx.mono x2 (fun b o hb hu => x1 b o ?_) fun b hb h1 h2 _ => ?_
          · rw [bm_out (notA j b hm hb)]
            exact hu
          · cases h3 : Hs' b with
            | none => rfl
            | some o =>
              have h4 := x4 b (by rw [h3]; exact fun z => nomatch z) h2
              rw [bm_out (notA j b hm hb)] at h4
              exact absurd h4 h1
      · rw [back_len] at hj
        rcases hb with ⟨k, hk, _⟩ | ⟨_, hb⟩
        · have := hlt j (mem_bors.mpr ⟨k, hk⟩)
          omega
        · exact F.out j hj b hb
      · have cross : ∀ k j j', es[k]? = some (.inl j) → (∃ s, as'[k]? = some s ∧ isOw s = true) → fps' k b → j' ∉ bors es → fpsC j' b → False := by
          intro k j j' hk ⟨s, hs, hso⟩ hb hm hb'
          rcases x5 k s hs with hu | ⟨p, o, o', hA, hs', S⟩
          · rw [hu] at hso
            cases hso
          · have h4 := (S.2 b hb).2.1
            rw [bm_out (notA j' b hm hb')] at h4
            exact (own j' b hb').2.2 h4
        rcases h1 with ⟨k1, hk1, ho1, hb1⟩ | ⟨hm1, hb1⟩
        · rcases h2 with ⟨k2, hk2, ho2, hb2⟩ | ⟨hm2, hb2⟩
          · have := x6 k1 k2 b hb1 hb2
            subst this
            rw [hk1] at hk2
            cases hk2
            rfl
          · exact (cross k1 j j' hk1 ho1 hb1 hm2 hb2).elim
        · rcases h2 with ⟨k2, hk2, ho2, hb2⟩ | ⟨hm2, hb2⟩
          · exact (cross k2 j' j hk2 ho2 hb2 hm1 hb1).elim
          · exact F.dj j j' b hb1 hb2
    have base : Ex B H' := fun b o hb => by
      refine x1 b o ?_
      have hno : ∀ i, ¬ fpsA i b := fun i ⟨j, _, hb'⟩ => by
        rw [(own j b hb').1] at hb
        cases hb
      rw [bm_out hno]
      exact R1.base b o hb
    have frs : ∀ b, Hs' b ≠ none → H0 b = none → B b = none := fun b h1 h2 => by
      cases h3 : Hs1 b with
      | some o => exact R1.frs b (by rw [h3]; exact fun z => nomatch z) h2
      | none =>
        have h4 := x4 b h1 h3
        by_cases h5 : ∃ k, fpsA k b
        · obtain ⟨k, j, _, hb⟩ := h5
          exact (own j b hb).1
        · rw [bm_out (fun k z => h5 ⟨k, z⟩)] at h4
          exact R1.base.none h4
    have RR : Rep K B H0 σ (back es as' δ1) H' Hs' := ⟨by rw [back_len]; exact R1.len, x3, base, R1.frz.trans x2, frs, _, FF⟩
    refine k v d (back es as' δ1) H' Hs' RR x2 (fun d' ed => by subst ed; exact r) (fun xs ed => ?_) q
    subst ed
    obtain ⟨p, ws, ev, hs0, hp, hbp, hnp, ha⟩ := r
    have hBp : B p = none := by
      by_cases h5 : ∃ k, fpsA k p
      · obtain ⟨k, j, _, hb⟩ := h5
        exact (own j p hb).1
      · rw [bm_out (fun k z => h5 ⟨k, z⟩)] at hbp
        exact R1.base.none hbp
    refine ⟨p, ws, ev, RR.reveal FF (fun i hi => ?_) hp hs0, hBp, RR.frz.none hs0, ha⟩
    rcases hi with ⟨k, hk, _, hb⟩ | ⟨hm, hb⟩
    · exact hnp k hb
    · rw [bm_out (notA i p hm hb)] at hbp
      exact (own i p hb).2.2 hbp
  exact hd _ key
theorem sim_callF {K : PySem.W.Frag} {dsp : DSp} (hs : SimCl K us tc) : SimE K (tCall (spOf K dsp) [] E0 us) (dCallF dsp tc) := by
  intro B H0 σ δ H Hs Q Q' R h k
  refine hs R h fun vs es δ1 H1 Hs1 R1 e1 r1 ⟨nd, hlt, hd⟩ => ?_
  show spOf K dsp (vs ++ []) H1 Q' E0
  rw [List.append_nil]
  refine call_core (Qr := fun r δ' => ∃ d, r = .dt d ∧ Q d δ') R1 r1 nd hlt (fun Q2 h2 => hd Q2 fun d as' hl q => h2 _ _ hl ⟨d, rfl, q⟩) fun v r δ' H' Hs' R' x rd _ ⟨d, ed, q⟩ => k v d δ' H' Hs' R' (e1.trans x) (rd d ed) q
theorem sim_callNw {K : PySem.W.Frag} {dsp : DSp} (hs : SimCl K us tc) : SimN K (tCall (spOf K dsp) [] E0 us) (dCallNw dsp tc) := by
  intro B H0 σ δ H Hs Q Q' R h k
  refine hs R h fun vs es δ1 H1 Hs1 R1 e1 r1 ⟨nd, hlt, hd⟩ => ?_
  show spOf K dsp (vs ++ []) H1 Q' E0
  rw [List.append_nil]
  refine call_core (Qr := fun r δ' => ∃ d, r = .new d ∧ Q d δ') R1 r1 nd hlt (fun Q2 h2 => hd Q2 fun d as' hl q => h2 _ _ hl ⟨d, rfl, q⟩) fun v r δ' H' Hs' R' x _ rn ⟨d, ed, q⟩ => ?_
  obtain ⟨p, ws, ev, R2, hB, h0, ha⟩ := rn d ed
  subst ev
  exact k p ws d δ' H' Hs' R2 hB h0 (e1.trans x) ha q
section
variable {x : Str} {p : Pos} {f : Addr} {fd : FuncData} {ps : List Str} {n : Nat} {dsp : DSp}
theorem je_call {K' : PySem.W.Frag} (F : FnOk X.prog X.w X.K X.mg X.base CX0 n f fd ps (spOf K' dsp)) (hr : Room n X.A) (hm : X.mg x = some (.ref f)) (hk : PySem.W.keepIn X.K (.ref f) = true) (hb : Binds X.K fd ps []) (ha : JC X (e :: es) us tc) (hK : X.K = K' := by rfl) (hg : Gl X x := by rfl) (hdb : (x == ("__debug__" : Str)) = false := by decide)
    (he : starEach (e :: es) X.env = (false, eval e X.env) :: starEach es X.env := by rfl) (hpl : (backTo pos (starEach es X.env)).any (·.1) = false := by rfl) :
    JE X (.Call (.Name x p) (e :: es) [] pos) (tCall (spOf K' dsp) [] E0 us) (dCallF dsp tc) := by
  subst hK
  exact ⟨pe_call F hr hg hm hk hb .nil pass0 ha.p hdb he hpl, sim_callF ha.s⟩
theorem jn_call {K' : PySem.W.Frag} (F : FnOk X.prog X.w X.K X.mg X.base CX0 n f fd ps (spOf K' dsp)) (hr : Room n X.A) (hm : X.mg x = some (.ref f)) (hk : PySem.W.keepIn X.K (.ref f) = true) (hb : Binds X.K fd ps []) (ha : JC X (e :: es) us tc) (hK : X.K = K' := by rfl) (hg : Gl X x := by rfl) (hdb : (x == ("__debug__" : Str)) = false := by decide)
    (he : starEach (e :: es) X.env = (false, eval e X.env) :: starEach es X.env := by rfl) (hpl : (backTo pos (starEach es X.env)).any (·.1) = false := by rfl) :
    JN X (.Call (.Name x p) (e :: es) [] pos) (tCall (spOf K' dsp) [] E0 us) (dCallNw dsp tc) := by
  subst hK
  exact ⟨pe_call F hr hg hm hk hb .nil pass0 ha.p hdb he hpl, sim_callNw ha.s⟩
end
end
end DL
namespace DL
open PySem PySem.Spec PyProof.Rows L2
theorem huD {k : Nat} {A : Around} (hr : Room k A) : A.units + 200 < cLine := by
  have := hr.un
  omega
section
variable {δ : Dl} {d d1 d2 : D} {Q : D → Dl → Prop} {Qd : D → Prop} {Qb : Bool → Dl → Prop} {Ql : List D → Dl → Prop} {t ta tb : TDE} {tl : TDL} {c c' : TDB} {s s1 s2 : TDS} {De : DEnds} {i : Nat} {rd : D → D → (D → Prop) → Prop}
theorem st_var (h : δ[i]? = some (.dt d)) (q : Q d δ) : dVar i δ Q := ⟨d, h, q⟩
theorem st_frz {p : Addr} {xs : List D} (h : δ[i]? = some (.ow p (.lst xs))) (q : Q (.list xs) (δ.set i (.dt (.list xs)))) : dFrz i δ Q := ⟨p, xs, h, q⟩
theorem st_c (q : Q d δ) : dC d δ Q := q
theorem st_nil (q : Ql [] δ) : dNil δ Ql := q
theorem st_cons (q : t δ fun d δ1 => tl δ1 fun ds δ2 => Ql (d :: ds) δ2) : dCons t tl δ Ql := q
theorem st_tup (q : tl δ fun ds δ' => ds.length ≤ 10000 ∧ Q (.tuple ds) δ') : dTup tl δ Q := q
theorem st_new (q : tl δ fun xs δ' => Q (.list xs) δ') : dN tl δ Q := q
theorem st_lst (q : tl δ fun ds δ' => ds.length ≤ 10000 ∧ Ql ds δ') : dLst tl δ Ql := q
theorem st_op (q : ta δ fun x δ1 => tb δ1 fun y δ2 => rd x y fun d => Q d δ2) : dOp rd ta tb δ Q := q
theorem st_test (q : t δ fun d δ' => ∃ c, d = .bool c ∧ Qb c δ') : dTest t δ Qb := q
theorem st_tru (q : t δ fun d δ' => truD d fun c => Qb c δ') : dTru t δ Qb := q
theorem st_isN (q : t δ fun d δ' => Q (.bool (isNoneD d)) δ') : dIsN t δ Q := q
theorem st_notN (q : t δ fun d δ' => Q (.bool (!isNoneD d)) δ') : dNotN t δ Q := q
theorem st_and (q : c δ fun b δ1 => if b = true then c' δ1 Qb else Qb false δ1) : dAnd c c' δ Qb := q
theorem st_or (q : c δ fun b δ1 => if b = true then Qb true δ1 else c' δ1 Qb) : dOr c c' δ Qb := q
theorem st_not (q : c δ fun b δ1 => Qb (!b) δ1) : dNot c δ Qb := q
theorem st_andV (q : ta δ fun d δ1 => ∃ c, d = .bool c ∧ if c = true then tb δ1 Q else Q (.bool false) δ1) : dAndV ta tb δ Q := q
theorem st_orV (q : ta δ fun d δ1 => ∃ c, d = .bool c ∧ if c = true then Q (.bool true) δ1 else tb δ1 Q) : dOrV ta tb δ Q := q
theorem st_notV (q : t δ fun d δ1 => ∃ c, d = .bool c ∧ Q (.bool (!c)) δ1) : dNotV t δ Q := q
theorem st_ifE (q : c δ fun b δ1 => if b = true then ta δ1 Q else tb δ1 Q) : dIf c ta tb δ Q := q
theorem st_chain {rd' : D → D → (D → Prop) → Prop} {tc : TDE} (q : ta δ fun x δ1 => tb δ1 fun y δ2 => rd x y fun z => ∃ k, z = .bool k ∧ (if k = true then tc δ2 fun w δ3 => rd' y w fun d => Q d δ3 else Q (.bool false) δ2)) : dChain rd rd' ta tb tc δ Q := q
theorem st_call {rc : List D → (D → Prop) → Prop} (q : tl δ fun ds δ' => rc ds fun d => Q d δ') : dCall rc tl δ Q := q
theorem st_callN {rc : List D → (List D → Prop) → Prop} (q : tl δ fun ds δ' => rc ds fun xs => Ql xs δ') : dCallN rc tl δ Ql := q
theorem st_isi {T : String} (q : t δ fun d δ' => Q (.bool (isT T d)) δ') : dIsi T t δ Q := q
theorem st_isi2 {T T' : String} (q : t δ fun d δ' => Q (.bool (isT T d || isT T' d)) δ') : dIsi2 T T' t δ Q := q
theorem st_slN {lo hi : TDO} (q : t δ fun d δ1 => lo δ1 fun l δ2 => hi δ2 fun u δ3 => ∃ xs, d = .list xs ∧ Ql (cutA xs l u) δ3) : dSlN t lo hi δ Ql := q
theorem st_sl {lo hi : TDO} (q : t δ fun d δ1 => lo δ1 fun l δ2 => hi δ2 fun u δ3 => slD d l u fun d' => Q d' δ3) : dSl t lo hi δ Q := q
theorem st_nopart {Qo : Option Int → Dl → Prop} (q : Qo none δ) : dNoPart δ Qo := q
theorem st_part {Qo : Option Int → Dl → Prop} (q : t δ fun d δ' => ∃ i, d = .int i ∧ Qo (some i) δ') : dPart t δ Qo := q
theorem st_rev (q : t δ fun d δ1 => ∃ xs, d = .list xs ∧ Ql xs.reverse δ1) : dRev t δ Ql := q
theorem st_lenO {p : Addr} {xs : List D} (h : δ[i]? = some (.ow p (.lst xs))) (q : Q (.int xs.length) δ) : dLenO i δ Q := ⟨p, xs, h, q⟩
theorem st_seq (q : s1 { De with nx := s2 De } δ) : sSeq s1 s2 De δ := q
theorem st_next (q : De.nx δ) : sNext De δ := q
theorem st_brk (q : De.bk δ) : sBreak De δ := q
theorem st_cont (q : De.ct δ) : sCont De δ := q
theorem st_drop (q : t δ fun _ δ' => De.nx δ') : sDrop t De δ := q
theorem st_ret (q : t δ fun d δ' => De.rt (.dt d) δ') : sRet t De δ := q
theorem st_retNew (q : tl δ fun xs δ' => De.rt (.new xs) δ') : sRetNew tl De δ := q
theorem st_retOwn {p : Addr} {xs : List D} (h : δ[i]? = some (.ow p (.lst xs))) (q : De.rt (.new xs) (δ.set i .un)) : sRetOwn i De δ := ⟨p, xs, h, q⟩
theorem st_retN (q : De.rt (.dt .none) δ) : sRetN De δ := q
theorem st_if (q : c δ fun b δ' => if b = true then s1 De δ' else s2 De δ') : sIf c s1 s2 De δ := q
theorem st_asg {g : TDG} (q : t δ fun d δ' => g d δ' De.nx) : sAsg t g De δ := q
theorem st_name {Qx : Dl → Prop} (q : Qx (δ.set i (.dt d))) : dgName i d δ Qx := q
theorem st_own (q : tl δ fun xs δ' => i < δ'.length ∧ ∀ p, De.nx (δ'.set i (.ow p (.lst xs)))) : sOwn tl i De δ := q
theorem st_sfrz {p : Addr} {xs : List D} (h : δ[i]? = some (.ow p (.lst xs))) (q : s De (δ.set i (.dt (.list xs)))) : sFrz i s De δ := ⟨p, xs, h, q⟩
theorem st_aug {a : Int} {f : Int → Int → Int} (h : δ[i]? = some (.dt (.int a))) (q : t δ fun d δ' => ∃ b, d = .int b ∧ De.nx (δ'.set i (.dt (.int (f a b))))) : sAug i t f De δ := ⟨a, h, q⟩
theorem st_app {p : Addr} {xs : List D} (h : δ[i]? = some (.ow p (.lst xs))) (q : t δ fun d δ' => ∃ p xs, δ'[i]? = some (.ow p (.lst xs)) ∧ xs.length ≤ 100000 ∧ De.nx (δ'.set i (.ow p (.lst (xs ++ [d]))))) : sApp i t De δ := ⟨⟨p, xs, h⟩, q⟩
theorem st_for {ti : TDI} {g : TDG} (q : ti δ fun xs δ' => sForGo g s De xs δ') : sFor ti g s De δ := q
theorem st_iLst (q : t δ fun d δ' => ∃ xs, d = .list xs ∧ Ql xs δ') : iLst t δ Ql := q
theorem st_iTup (q : t δ fun d δ' => ∃ xs, d = .tuple xs ∧ Ql xs δ') : iTupD t δ Ql := q
theorem st_iRg1 (q : tl δ fun ds δ' => ∃ n : Int, ds = [.int n] ∧ n ≤ 1000000 ∧ -1000000 ≤ n ∧ Ql (rngD 0 n.toNat) δ') : iRg1 tl δ Ql := q
theorem st_iRg2 (q : tl δ fun ds δ' => ∃ m n : Int, ds = [.int m, .int n] ∧ (n ≤ 1000000 ∧ -1000000 ≤ n ∧ m ≤ 1000000 ∧ -1000000 ≤ m) ∧ Ql (rngD m (n - m).toNat) δ') : iRg2 tl δ Ql := q
theorem st_yes (q : Qb true δ) : dYes δ Qb := q
theorem st_gTup {n : Nat} {gs : TDGs} {xs : List D} {Qx : Dl → Prop} (h : xs.length = n) (q : gs xs δ Qx) : dgTup n gs (.tuple xs) δ Qx := ⟨xs, rfl, h, q⟩
theorem st_gCons {g : TDG} {gs : TDGs} {ds : List D} {Qx : Dl → Prop} (q : g d δ fun δ' => gs ds δ' Qx) : dgCons g gs (d :: ds) δ Qx := ⟨d, ds, rfl, q⟩
theorem st_gNil {Qx : Dl → Prop} (q : Qx δ) : dgNil [] δ Qx := ⟨rfl, q⟩
theorem st_cNil {Qe : List Ent → Dl → Prop} (q : Qe [] δ) : cNil δ Qe := q
theorem st_cCons {u : TDC} {Qe : List Ent → Dl → Prop} (q : t δ fun d δ1 => u δ1 fun es δ2 => Qe (.inr d :: es) δ2) : cCons t u δ Qe := q
theorem st_cLend {u : TDC} {Qe : List Ent → Dl → Prop} {p : Addr} {o : OD} (h : δ[i]? = some (.ow p o)) (q : u δ fun es δ2 => Qe (.inl i :: es) δ2) : cLendT i u δ Qe := ⟨⟨p, o, h⟩, q⟩
theorem st_callF {dsp : DSp} {u : TDC} (q : u δ fun es δ' => (bors es).Nodup ∧ (∀ i ∈ bors es, i < δ'.length) ∧ ∀ Q2 : RS → List SD → Prop, (∀ d as', as'.length = es.length → Q d (back es as' δ') → Q2 (.dt d) as') → dsp (es.map (resD δ')) Q2) : dCallF dsp u δ Q := q
theorem st_callNw {dsp : DSp} {u : TDC} (q : u δ fun es δ' => (bors es).Nodup ∧ (∀ i ∈ bors es, i < δ'.length) ∧ ∀ Q2 : RS → List SD → Prop, (∀ xs as', as'.length = es.length → Ql xs (back es as' δ') → Q2 (.new xs) as') → dsp (es.map (resD δ')) Q2) : dCallNw dsp u δ Ql := q
theorem st_add {a b : Int} (q : Qd (.int (a + b))) : addD (.int a) (.int b) Qd := q
theorem st_sub {a b : Int} (q : Qd (.int (a - b))) : subD (.int a) (.int b) Qd := q
theorem smallI {i : Int} (h : -(18446744073709551616) < i ∧ i < 18446744073709551616) : SmallI i := h
theorem st_mulR {a b : Int} (h : -(18446744073709551616) < b ∧ b < 18446744073709551616) (q : Qd (.int (a * b))) : mulD (.int a) (.int b) Qd := ⟨.inr h, q⟩
theorem st_mulL {a b : Int} (h : -(18446744073709551616) < a ∧ a < 18446744073709551616) (q : Qd (.int (a * b))) : mulD (.int a) (.int b) Qd := ⟨.inl h, q⟩
theorem st_mod {a b : Int} (h : 0 < b) (q : Qd (.int (a % b))) : modD (.int a) (.int b) Qd := ⟨h, q⟩
theorem st_fdiv {a b : Int} (h : 0 < b ∧ b < 1073741824) (q : Qd (.int (a / b))) : fdivD (.int a) (.int b) Qd := ⟨h, q⟩
theorem st_pow {a b : Int} (h : (0 ≤ b ∧ b ≤ 1000) ∧ -(18446744073709551616) < a ∧ a < 18446744073709551616) (q : Qd (.int (a ^ b.toNat))) : powD (.int a) (.int b) Qd := ⟨h, q⟩
theorem d0 (b : D) : min (PyData.depth (.int 0)) b.depth ≤ 150 := by simp [PyData.depth]
theorem st_eqI {a b : Int} (q : Qd (.bool (decide (a = b)))) : eqD (.int a) (.int b) Qd := ⟨by simp [PyData.depth], by
  have e : PyData.eqv (.int a) (.int b) = decide (a = b) := by
    simp only [PyData.eqv]
    by_cases h : a = b
    · subst h
      simp
    · rw [decide_eq_false h]
      exact beq_eq_false_iff_ne.mpr h
  rw [e]
  exact q⟩
theorem st_neI {a b : Int} (q : Qd (.bool (!decide (a = b)))) : neD (.int a) (.int b) Qd := ⟨by simp [PyData.depth], by
  have e : PyData.eqv (.int a) (.int b) = decide (a = b) := by
    simp only [PyData.eqv]
    by_cases h : a = b
    · subst h
      simp
    · rw [decide_eq_false h]
      exact beq_eq_false_iff_ne.mpr h
  rw [e]
  exact q⟩
theorem st_eqS {a b : Str} (q : Qd (.bool (decide (a = b)))) : eqD (.str a) (.str b) Qd := ⟨by simp [PyData.depth], by
  have e : PyData.eqv (.str a) (.str b) = decide (a = b) := by
    simp only [PyData.eqv]
    by_cases h : a = b
    · subst h
      simp
    · rw [decide_eq_false h]
      exact beq_eq_false_iff_ne.mpr h
  rw [e]
  exact q⟩
theorem st_eqB {a b : Bool} (q : Qd (.bool (a == b))) : eqD (.bool a) (.bool b) Qd := ⟨by simp [PyData.depth], by
  simp only [PyData.eqv]
  exact q⟩
theorem st_neB {a b : Bool} (q : Qd (.bool (!(a == b)))) : neD (.bool a) (.bool b) Qd := ⟨by simp [PyData.depth], by
  simp only [PyData.eqv]
  exact q⟩
theorem st_ordI {g : D → D → Bool} {a b : Int} (q : Qd (.bool (g (.int a) (.int b)))) : ordD g (.int a) (.int b) Qd := ⟨by simp [PySem.W.alike], rfl, by simp [PyData.depth], q⟩
theorem st_ltI {a b : Int} (q : Qd (.bool (decide (a < b)))) : ltD (.int a) (.int b) Qd := st_ordI (by rw [PySem.W.dataLt_int]; exact q)
theorem st_gtI {a b : Int} (q : Qd (.bool (decide (b < a)))) : gtD (.int a) (.int b) Qd := st_ordI (by rw [PySem.W.dataLt_int]; exact q)
theorem st_leI {a b : Int} (q : Qd (.bool (decide (a ≤ b)))) : leD (.int a) (.int b) Qd := st_ordI (by
  rw [PySem.W.dataLt_int]
  have e : (!decide (b < a)) = decide (a ≤ b) := by
    by_cases h : b < a
    · simp [h]
    · simp [h]; omega
  rw [e]
  exact q)
theorem st_geI {a b : Int} (q : Qd (.bool (decide (b ≤ a)))) : geD (.int a) (.int b) Qd := st_ordI (by
  rw [PySem.W.dataLt_int]
  have e : (!decide (a < b)) = decide (b ≤ a) := by
    by_cases h : a < b
    · simp [h]
    · simp [h]; omega
  rw [e]
  exact q)
theorem st_ixL {xs : List D} {j : Int} (h : atI xs j = some d) (q : Qd d) : ixD (.list xs) (.int j) Qd := ⟨d, h, q⟩
theorem st_ixT {xs : List D} {j : Int} (h : atI xs j = some d) (q : Qd d) : ixD (.tuple xs) (.int j) Qd := ⟨d, h, q⟩
theorem st_lenL {xs : List D} (q : Qd (.int xs.length)) : lenD [.list xs] Qd := q
theorem st_lenT {xs : List D} (q : Qd (.int xs.length)) : lenD [.tuple xs] Qd := q
theorem st_int {a : Int} (q : Qd (.int a)) : toIntD [.int a] Qd := q
theorem st_intB {a : Bool} (q : Qd (.int (if a then 1 else 0))) : toIntD [.bool a] Qd := q
theorem ite_dec {p A B : Prop} [Decidable p] (h1 : p → A) (h2 : ¬ p → B) : if decide p = true then A else B := by
  by_cases h : p
  · rw [if_pos (by simp [h])]
    exact h1 h
  · rw [if_neg (by simp [h])]
    exact h2 h
theorem ite_b {b : Bool} {A B : Prop} (h1 : b = true → A) (h2 : b = false → B) : if b = true then A else B := by
  cases b with
  | true => exact h1 rfl
  | false => exact h2 rfl
theorem ite_T {A B : Prop} (h : A) : if true = true then A else B := h
theorem ite_F {A B : Prop} (h : B) : if false = true then A else B := by
  rw [if_neg Bool.false_ne_true]
  exact h
end
theorem for_inv {g : TDG} {s : TDS} {De : DEnds} {xs : List D} {δ : Dl} (I : Nat → Dl → Prop) (h0 : I 0 δ)
    (step : ∀ (i : Nat) (x : D) (δ' : Dl) (N : Dl → Prop), xs[i]? = some x → I i δ' → (∀ δ'', I (i + 1) δ'' → N δ'') → g x δ' fun δ1 => s { De with nx := N, ct := N, bk := De.nx } δ1)
    (done : ∀ δ', I xs.length δ' → De.nx δ') : sForGo g s De xs δ := by
  have key : ∀ (n i : Nat) (δ' : Dl), n + i = xs.length → I i δ' → sForGo g s De (xs.drop i) δ' := by
    intro n
    induction n with
    | zero =>
      intro i δ' hn hi
      have e : i = xs.length := by omega
      subst e
      rw [List.drop_length]
      exact done δ' hi
    | succ n ih =>
      intro i δ' hn hi
      have hl : i < xs.length := by omega
      rw [List.drop_eq_getElem_cons hl]
      exact step i xs[i] δ' _ (List.getElem?_eq_getElem hl) hi fun δ'' h => ih (i + 1) δ'' (by omega) h
  have := key xs.length 0 δ (by omega) h0
  rw [List.drop_zero] at this
  exact this
theorem rngD_len (lo : Int) (n : Nat) : (rngD lo n).length = n := by
  unfold rngD
  rw [List.length_map, List.length_range]
theorem rngD_get {lo : Int} {n i : Nat} {x : D} (h : (rngD lo n)[i]? = some x) : i < n ∧ x = .int (lo + (i : Int)) := by
  have hl := lt_of_get h
  rw [rngD_len] at hl
  unfold rngD at h
  rw [List.getElem?_map, List.getElem?_range hl] at h
  cases h
  exact ⟨hl, rfl⟩
theorem for_rng {g : TDG} {s : TDS} {De : DEnds} {lo : Int} {n : Nat} {δ : Dl} (I : Nat → Dl → Prop) (h0 : I 0 δ)
    (step : ∀ (i : Nat) (δ' : Dl) (N : Dl → Prop), i < n → I i δ' → (∀ δ'', I (i + 1) δ'' → N δ'') → g (.int (lo + (i : Int))) δ' fun δ1 => s { De with nx := N, ct := N, bk := De.nx } δ1)
    (done : ∀ δ', I n δ' → De.nx δ') : sForGo g s De (rngD lo n) δ :=
  for_inv I h0 (fun i x δ' N hx hi hN => by
    obtain ⟨h1, rfl⟩ := rngD_get hx
    exact step i δ' N h1 hi hN) fun δ' h => done δ' (by rw [rngD_len] at h; exact h)
theorem lc_inv {g : TDG} {tt : TDB} {te : TDE} {vs : List Nat} {Q : List D → Dl → Prop} {xs : List D} {δ : Dl} (I : Nat → List D → Dl → Prop) (h0 : I 0 [] δ)
    (step : ∀ (i : Nat) (x : D) (acc : List D) (δ' : Dl) (N : List D → Dl → Prop), xs[i]? = some x → I i acc δ' → (∀ acc' δ'', I (i + 1) acc' δ'' → N acc' δ'') →
      g x (wipeD δ' vs) fun δ1 => tt δ1 fun b δ2 => if b = true then te δ2 fun y δ3 => acc.length ≤ 100000 ∧ N (acc ++ [y]) (mixD δ3 δ' vs) else N acc (mixD δ2 δ' vs))
    (done : ∀ acc δ', I xs.length acc δ' → Q acc δ') : dLcGo g tt te vs Q xs [] δ := by
  have key : ∀ (n i : Nat) (acc : List D) (δ' : Dl), n + i = xs.length → I i acc δ' → dLcGo g tt te vs Q (xs.drop i) acc δ' := by
    intro n
    induction n with
    | zero =>
      intro i acc δ' hn hi
      have e : i = xs.length := by omega
      subst e
      rw [List.drop_length]
      exact done acc δ' hi
    | succ n ih =>
      intro i acc δ' hn hi
      have hl : i < xs.length := by omega
      rw [List.drop_eq_getElem_cons hl]
      exact step i xs[i] acc δ' _ (List.getElem?_eq_getElem hl) hi fun acc' δ'' h => ih (i + 1) acc' δ'' (by omega) h
  have := key xs.length 0 [] δ (by omega) h0
  rw [List.drop_zero] at this
  exact this
theorem while_inv {c : TDB} {s : TDS} {De : DEnds} {δ : Dl} (W : Nat → Dl → Prop) (m : Nat) (h0 : W m δ)
    (step : ∀ m δ', W m δ' → c δ' fun b δ1 => if b = true then s { De with nx := fun δ' => ∃ m', m' < m ∧ W m' δ', ct := fun δ' => ∃ m', m' < m ∧ W m' δ', bk := De.nx } δ1 else De.nx δ1) : sWhile c s De δ := ⟨W, ⟨m, h0⟩, step⟩
theorem fn_never {P : Program} {w : World} {K : PySem.W.Frag} {mg : Str → Option Value} {base : Heap} {k : Nat} {f : Addr} {fd : FuncData} {ps : List Str} {dsp : DSp} (no : ∀ as Q, ¬ dsp as Q) : FnOk P w K mg base CX0 k f fd ps (spOf K dsp) :=
  ⟨fun vs H Q E ⟨_, _, _, _, _, _, h⟩ => absurd h (no _ _), fun A outer s H args us vs Q E _ _ _ _ ⟨_, _, _, _, _, _, h⟩ => absurd h (no _ _)⟩
def spLaw : DSp := fun as Q => ∃ ns : List Int, as = [.dt (.list (ns.map .int))] ∧ ns.length ≤ 63 ∧ Q (.dt (.bool true)) [.un]
theorem law_ask {K : PySem.W.Frag} {H : Hp} {a : Addr} {ns : List Int} (hl : ns.length ≤ 63) (hS : SqL K H a (ns.map V.int)) : spOf K spLaw [.ref a] H (fun v _ => v = .bl true) fun _ _ _ => False := by
  refine ⟨H, [.dt (.list (ns.map .int))], fun _ _ => False, rfl, Ex.refl _, ⟨fun i s hs => ?_, fun _ _ _ h => h, fun _ _ _ h => h.elim⟩, ns, rfl, hl, fun v H' Hs' fps' _ _ _ _ _ _ r => ?_⟩
  · cases i with
    | zero =>
      cases (show some _ = some s from hs)
      refine ⟨some (.ref a), rfl, .lst hS ?_, fun b h => h⟩
      have : ∀ l : List Int, DpAll K H (l.map V.int) (l.map PyData.int) := by
        intro l
        induction l with
        | nil => exact .nil
        | cons x l ih => exact .cons (.int x) ih
      exact this ns
    | succ i => simp at hs
  · cases r
    rfl
end DL
namespace DL
open PySem PySem.Spec PyProof.Rows L2
section
variable {X : Cx} {e a b : Expr} {es : List Expr} {pos : Pos} {t ta tb : TDE} {ue ua ub : TE} {us : TA} {pins : List (Addr × Obj)} {σ : L2.St} {H : Hp} {s : Shared}
def dIxO (i : Nat) (t : TDE) : TDE := fun δ Q => (∃ p xs, δ[i]? = some (.ow p (.lst xs))) ∧ t δ fun d δ' => ∃ p xs j z, δ'[i]? = some (.ow p (.lst xs)) ∧ d = .int j ∧ atI xs j = some z ∧ Q z δ'
theorem je_ixO {x : Str} {p1 : Pos} (i : Nat) (hb : JE X b ub tb) (hN : X.N[i]? = some x := by rfl) (hv : Vis X.env.scope x := by first | exact Or.inl rfl | exact Or.inr (Or.inl rfl) | exact Or.inr (Or.inr rfl)) (hd : (x == ("__debug__" : Str)) = false := by decide)
    (hcd : (x == ("__classdict__" : Str)) = false := by decide) (hs : PlainIx b := by exact fun _ _ => rfl) : JE X (.Subscript (.Name x p1) b pos) (tOp (rIxU X.K) (tVar i) ub) (dIxO i tb) := by
  refine ⟨pe_ix ix_seq (pe_var hN hv hd hcd) hb.p hs, fun R ⟨⟨p, xs, ex⟩, q⟩ k => ?_⟩
  obtain ⟨vs, e1, hp, ha⟩ := own_at R ex
  refine ⟨_, e1, hb.s R q fun v d δ' H' Hs' R1 x r ⟨p', ys, j, z, ey, ed, hz, q1⟩ => ?_⟩
  subst ed
  cases r
  obtain ⟨ws, e2, hp2, ha2⟩ := own_at R1 ey
  rw [e1] at e2
  cases e2
  obtain ⟨w, hw, rw'⟩ := dpAll_at ha2 hz
  exact .inl ⟨p, ws, j, w, rfl, rfl, .inl (.inl hp2), hw, k _ _ _ _ _ R1 x rw' q1⟩
theorem st_ixO {δ : Dl} {i : Nat} {Q : D → Dl → Prop} {p : Addr} {xs : List D} (h : δ[i]? = some (.ow p (.lst xs))) (q : t δ fun d δ' => ∃ p xs j z, δ'[i]? = some (.ow p (.lst xs)) ∧ d = .int j ∧ atI xs j = some z ∧ Q z δ') : dIxO i t δ Q := ⟨⟨p, xs, h⟩, q⟩
def dNeg (t : TDE) : TDE := fun δ Q => t δ fun d δ' => ∃ i, d = .int i ∧ Q (.int (-i)) δ'
theorem je_neg (h : JE X e ue t) : JE X (.UnaryOp .USub e pos) (tUn (rU fun i => .int (-i)) ue) (dNeg t) := ⟨pe_un un_neg h.p, fun R q k => h.s R q fun v d δ' H' Hs' R1 x r ⟨i, ed, q1⟩ => by
  subst ed
  cases r
  exact ⟨i, rfl, k _ _ _ _ _ R1 x (.int _) q1⟩⟩
theorem st_neg {δ : Dl} {Q : D → Dl → Prop} (q : t δ fun d δ' => ∃ i, d = .int i ∧ Q (.int (-i)) δ') : dNeg t δ Q := q
def rSortK (K : PySem.W.Frag) : List V → List V → Hp → VK → Prop := fun vs zs H Q => zs = [.bl true] ∧ rSortD K vs H Q
theorem cr_sortK (hu : X.A.units + 200 < cLine) : CallRK X (.builtin "sorted") [Str.ofString "reverse"] (rSortK X.K) := by
  intro pins s σ H vs zs us ws Q I r rz h
  obtain ⟨rfl, a, xs, ds, rfl, hs, ha, h1, h2, h3, q⟩ := h
  obtain ⟨w1, rfl, e1⟩ := vals1 rz
  obtain rfl : w1 = Value.bool true := e1
  obtain ⟨its, rv, hl, hz⟩ := I.list hs
  rw [Vals.ref1 r]
  obtain ⟨as, hr⟩ := Dp.readsAll I _ _ its ha rv
  obtain ⟨e1, e2⟩ := each_zip rv hr
  have hm : (xs.zip ds).map Prod.snd = ds := List.map_snd_zip (by rw [dpAll_len ha]; exact Nat.le_refl _)
  refine PySem.W.sorted_rev_data (enc := Prod.snd) hl.isList e1 e2 (by rw [hm]; exact h1) (by rw [hm]; exact h2) (by rw [List.length_zip]; omega) (fun b hb => ?_) fun out ho he => sort_rule I hz (dpAll_len ha) q he
  have := h3 b.2 (List.of_mem_zip (a := b.1) (b := b.2) hb).2
  omega
theorem jn_sortRev {p pk : Pos} {j : Nat} {pc : Pos} {u : TDL} (hu : X.A.units + 200 < cLine) (hg : Gl X "sorted") (hm : X.mg "sorted" = none) (ha : JA X (e :: es) us u)
    (he : backTo pos (starEach (e :: es) X.env) = (false, eval e X.env) :: backTo pos (starEach es X.env) := by rfl) (hpl : (backTo pos (starEach (e :: es) X.env)).any (·.1) = false := by rfl)
    (hall : (backToKw pos (keywordEach [⟨some "reverse", .Constant (.bool true) j pc, pk⟩] X.env)).all (·.1.isSome) = true := by rfl) (hnone : (backToKw pos (keywordEach [⟨some "reverse", .Constant (.bool true) j pc, pk⟩] X.env)).any (·.1.isNone) = false := by rfl) (hks : (backToKw pos (keywordEach [⟨some "reverse", .Constant (.bool true) j pc, pk⟩] X.env)).filterMap (·.1) = [Str.ofString "reverse"] := by rfl) :
    JN X (.Call (.Name "sorted" p) (e :: es) [⟨some "reverse", .Constant (.bool true) j pc, pk⟩] pos) (tCKw (rSortK X.K) us (tCons (tC (.bl true)) tNil)) (dCallN sortD u) := ⟨pe_callBK (cr_sortK hu) hg hm (by decide +kernel) ha.p (pk_cons pe_bl pk_nil) (by decide) (by decide) he hpl hall hnone hks, fun R q k => ha.s R q fun vs ds δ1 H1 Hs1 R1 e1 r1 h1 => by
    refine ⟨rfl, ?_⟩
    exact sim_sort (Q' := _) R1.ex r1 h1 fun p ws xs hp r q => k _ _ _ _ _ _ (R1.hide hp) (R1.base.none hp) (R1.frz.none (R1.ex.none hp)) e1 r q⟩
end
end DL
namespace DL
open PySem PySem.Spec PyProof.Rows L2
theorem ex_bool {b : Bool} {Q : Bool → Prop} (q : Q b) : ∃ c, PyData.bool b = .bool c ∧ Q c := ⟨b, rfl, q⟩
theorem ex_int {b : Int} {Q : Int → Prop} (q : Q b) : ∃ c, PyData.int b = .int c ∧ Q c := ⟨b, rfl, q⟩
theorem ex_list {b : List D} {Q : List D → Prop} (q : Q b) : ∃ c, PyData.list b = .list c ∧ Q c := ⟨b, rfl, q⟩
theorem ex_tuple {b : List D} {Q : List D → Prop} (q : Q b) : ∃ c, PyData.tuple b = .tuple c ∧ Q c := ⟨b, rfl, q⟩
theorem and_ok {ds : List D} {Q : Prop} (h : Nat.ble ds.length 10000 = true) (q : Q) : ds.length ≤ 10000 ∧ Q := ⟨Nat.le_of_ble_eq_true h, q⟩
theorem own_ok {i : Nat} {δ : Dl} {Q : Addr → Prop} (h : Nat.ble (i + 1) δ.length = true) (q : ∀ p, Q p) : i < δ.length ∧ ∀ p, Q p := ⟨Nat.le_of_ble_eq_true h, q⟩
theorem call_ok {es : List Ent} {n : Nat} {P : Prop} (h1 : (bors es).Nodup) (h2 : ∀ i ∈ bors es, i < n) (q : P) : (bors es).Nodup ∧ (∀ i ∈ bors es, i < n) ∧ P := ⟨h1, h2, q⟩
theorem boolsD_ok {g : List Bool → Bool} {xs : List D} {Q : D → Prop} (bs : List Bool) (h : xs = bs.map .bool) (q : Q (.bool (g bs))) : boolsD g [.list xs] Q := ⟨bs, by rw [h], q⟩
theorem st_listL {xs : List D} {Q : List D → Prop} (q : Q xs) : listD [.list xs] Q := q
theorem st_listT {xs : List D} {Q : List D → Prop} (q : Q xs) : listD [.tuple xs] Q := q
theorem st_tupleL {xs : List D} {Q : D → Prop} (q : Q (.tuple xs)) : tupleD [.list xs] Q := q
theorem st_int2 {g : Int → Int → Int} {i j : Int} {Q : D → Prop} (q : Q (.int (g i j))) : int2D g [.int i, .int j] Q := q
theorem st_slL {xs : List D} {l u : Option Int} {Q : D → Prop} (q : Q (.list (cutA xs l u))) : slD (.list xs) l u Q := q
theorem st_slT {xs : List D} {l u : Option Int} {Q : D → Prop} (q : Q (.tuple (cutA xs l u))) : slD (.tuple xs) l u Q := q
theorem st_slS {z : Str} {l u : Option Int} {Q : D → Prop} (h : z.length ≤ 100000) (q : Q (.str (cutS z l u))) : slD (.str z) l u Q := ⟨h, q⟩
theorem st_addL {xs ys : List D} {Q : D → Prop} (h : xs.length + ys.length ≤ 100000) (q : Q (.list (xs ++ ys))) : addD (.list xs) (.list ys) Q := ⟨h, q⟩
theorem st_iRgOk {n : Int} {Q : List D → Prop} (h1 : n ≤ 1000000) (h2 : -1000000 ≤ n) (q : Q (rngD 0 n.toNat)) : ∃ m : Int, [PyData.int n] = [.int m] ∧ m ≤ 1000000 ∧ -1000000 ≤ m ∧ Q (rngD 0 m.toNat) := ⟨n, rfl, h1, h2, q⟩
theorem cut_take {α : Type} (xs : List α) (k : Nat) : cutA xs none (some (k : Int)) = xs.take k := by
  unfold cutA
  rw [HT.sIx_none, HT.sIx_nat, List.drop_zero, Nat.sub_zero]
  by_cases h : k ≤ xs.length
  · rw [Nat.min_eq_left h]
  · rw [Nat.min_eq_right (by omega), List.take_length, List.take_of_length_le (by omega)]
theorem cut_drop {α : Type} (xs : List α) (k : Nat) : cutA xs (some (k : Int)) none = xs.drop k := by
  unfold cutA
  rw [HT.sIx_none, HT.sIx_nat]
  by_cases h : k ≤ xs.length
  · rw [Nat.min_eq_left h, List.take_of_length_le (by rw [List.length_drop]; exact Nat.le_refl _)]
  · rw [Nat.min_eq_right (by omega), List.drop_length, List.drop_eq_nil_of_le (by omega), List.take_nil]
theorem cut_takeI {α : Type} (xs : List α) {k : Int} (h : 0 ≤ k) : cutA xs none (some k) = xs.take k.toNat := by
  have e : k = ((k.toNat : Nat) : Int) := by omega
  rw [e, cut_take]
  rfl
theorem cut_dropI {α : Type} (xs : List α) {k : Int} (h : 0 ≤ k) : cutA xs (some k) none = xs.drop k.toNat := by
  have e : k = ((k.toNat : Nat) : Int) := by omega
  rw [e, cut_drop]
  rfl
theorem lc_pure {i : Nat} {te : TDE} {Q : List D → Dl → Prop} {xs : List D} {δ : Dl} (f : D → D) (s : SD) (hs : δ[i]? = some s) (hl : xs.length ≤ 100000)
    (step : ∀ x ∈ xs, ∀ N : D → Dl → Prop, N (f x) (δ.set i (.dt x)) → te (δ.set i (.dt x)) N) (done : Q (xs.map f) δ) : dLcGo (dgName i) dYes te [i] Q xs [] δ := by
  refine lc_inv (fun k acc δ' => δ' = δ ∧ acc = (xs.take k).map f) ⟨rfl, rfl⟩ (fun k x acc δ' N hx ⟨e1, e2⟩ hN => ?_) fun acc δ' ⟨e1, e2⟩ => ?_
  · subst e1 e2
    have hm : x ∈ xs := List.mem_of_getElem? hx
    have hk := lt_of_get hx
    show te ((δ'.set i .un).set i (.dt x)) _
    rw [List.set_set]
    refine step x hm _ ⟨?_, hN _ _ ⟨?_, ?_⟩⟩
    · rw [List.length_map, List.length_take]
      omega
    · show ((δ'.set i (.dt x)).set i (δ'[i]?.getD .un)) = δ'
      rw [List.set_set, hs]
      exact set_self hs
    · rw [List.take_add_one, hx, List.map_append]
      rfl
  · subst e1 e2
    rw [List.take_length]
    exact done
theorem lc_filter {i : Nat} {tt : TDB} {te : TDE} {Q : List D → Dl → Prop} {xs : List D} {δ : Dl} (p : D → Bool) (f : D → D) (s : SD) (hs : δ[i]? = some s) (hl : xs.length ≤ 100000)
    (test : ∀ x ∈ xs, ∀ N : Bool → Dl → Prop, N (p x) (δ.set i (.dt x)) → tt (δ.set i (.dt x)) N)
    (step : ∀ x ∈ xs, p x = true → ∀ N : D → Dl → Prop, N (f x) (δ.set i (.dt x)) → te (δ.set i (.dt x)) N) (done : Q ((xs.filter p).map f) δ) : dLcGo (dgName i) tt te [i] Q xs [] δ := by
  refine lc_inv (fun k acc δ' => δ' = δ ∧ acc = ((xs.take k).filter p).map f) ⟨rfl, rfl⟩ (fun k x acc δ' N hx ⟨e1, e2⟩ hN => ?_) fun acc δ' ⟨e1, e2⟩ => ?_
  · subst e1 e2
    have hm : x ∈ xs := List.mem_of_getElem? hx
    have hk := lt_of_get hx
    show tt ((δ'.set i .un).set i (.dt x)) _
    rw [List.set_set]
    have back1 : ((δ'.set i (.dt x)).set i (δ'[i]?.getD .un)) = δ' := by
      rw [List.set_set, hs]
      exact set_self hs
    refine test x hm _ ?_
    cases hp : p x with
    | true =>
      rw [if_pos rfl]
      refine step x hm hp _ ⟨?_, hN _ _ ⟨back1, ?_⟩⟩
      · rw [List.length_map]
        have := List.length_filter_le p (xs.take k)
        rw [List.length_take] at this
        omega
      · rw [List.take_add_one, hx, List.filter_append, List.map_append]
        show _ = _ ++ (List.filter p [x]).map f
        rw [List.filter_cons, if_pos hp]
        rfl
    | false =>
      rw [if_neg Bool.false_ne_true]
      refine hN _ _ ⟨back1, ?_⟩
      rw [List.take_add_one, hx, List.filter_append, List.map_append]
      show _ = _ ++ (List.filter p [x]).map f
      rw [List.filter_cons, if_neg (by rw [hp]; exact Bool.false_ne_true)]
      show _ = _ ++ []
      rw [List.append_nil]
  · subst e1 e2
    rw [List.take_length]
    exact done
theorem st_lc {ti : TDI} {g : TDG} {tt : TDB} {te : TDE} {vs : List Nat} {δ : Dl} {Q : List D → Dl → Prop} (h : ∀ v ∈ vs, ∃ s, δ[v]? = some s ∧ isOw s = false) (q : ti δ fun xs δ' => (∀ v ∈ vs, ∃ s, δ'[v]? = some s ∧ isOw s = false) ∧ dLcGo g tt te vs Q xs [] δ') : dLc ti g tt te vs δ Q := ⟨h, q⟩
theorem st_popInts {δ : Dl} {i : Nat} {p : Addr} {ns : List Int} {z : Int} {Q : D → Dl → Prop} (h : δ[i]? = some (.ow p (.lst ((ns ++ [z]).map PyData.int)))) (q : Q (.int z) (δ.set i (.ow p (.lst (ns.map PyData.int))))) : dPop i δ Q :=
  ⟨p, ns.map .int, .int z, by rw [h, List.map_append]; rfl, q⟩
theorem snoc_of {α : Type} {l : List α} (h : ¬ ((l.length : Int) = 0)) : ∃ l' z, l = l' ++ [z] := by
  have h0 : l ≠ [] := fun z => h (by rw [z]; rfl)
  exact ⟨l.dropLast, l.getLast h0, (List.dropLast_concat_getLast h0).symm⟩
theorem own1 {δ : Dl} {i : Nat} {s : SD} (h : δ[i]? = some s) (o : isOw s = false) : ∀ v ∈ [i], ∃ s, δ[v]? = some s ∧ isOw s = false := fun v hv => by
  rcases List.mem_cons.mp hv with rfl | hv
  · exact ⟨s, h, o⟩
  · simp at hv
theorem st_setO {δ : Dl} {De : DEnds} {i : Nat} {tj t : TDE} (q : t δ fun d δ1 => (∃ p xs, δ1[i]? = some (.ow p (.lst xs))) ∧ tj δ1 fun dj δ2 => ∃ p xs j k, δ2[i]? = some (.ow p (.lst xs)) ∧ dj = .int j ∧ ixN xs.length j = some k ∧ De.nx (δ2.set i (.ow p (.lst (xs.set k d))))) : sSetO i tj t De δ := q
theorem ixN_nat {n k : Nat} (h : k < n) : ixN n (k : Int) = some k := by
  unfold ixN
  simp [h]
theorem st_ifJ {c : TDB} {s1 s2 : TDS} {De : DEnds} {δ : Dl} (I : Dl → Prop) (h : ∀ N : Dl → Prop, (∀ δ', I δ' → N δ') → sIf c s1 s2 { De with nx := N } δ) (k : ∀ δ', I δ' → De.nx δ') : sIf c s1 s2 De δ := h De.nx k
theorem sort_ok {xs : List D} {Q : List D → Prop} (h1 : PySem.W.AllAlike xs) (h2 : PySem.W.Sortable xs) (h3 : ∀ d ∈ xs, d.depth ≤ 150) (q : ∀ ys, ys.Perm xs → Q ys) : sortD [.list xs] Q := ⟨xs, rfl, h1, h2, h3, q⟩
end DL
namespace K69
open PySem PySem.Spec PyProof.Rows L2 DL
local macro_rules | `(tactic| walk_at "1") => `(tactic| first
  | ((with_reducible refine' st_var ?k1 ?_); (case k1 => exact rfl))
  | with_reducible refine' st_seq ?_
  | with_reducible refine' st_c ?_
  | with_reducible refine' st_asg ?_
  | with_reducible refine' st_name ?_
  | with_reducible refine' st_cons ?_
  | with_reducible refine' st_nil ?_
  | with_reducible refine' st_op ?_
  | with_reducible refine' st_test ?_
  | with_reducible refine' ex_bool ?_
  | with_reducible refine' ex_int ?_
  | with_reducible refine' st_ret ?_
  | with_reducible refine' st_retN ?_
  | with_reducible refine' st_next ?_
  | with_reducible refine' st_brk ?_
  | with_reducible refine' st_cont ?_
  | with_reducible refine' st_drop ?_
  | with_reducible refine' st_tup ?_
  | with_reducible refine' st_new ?_
  | with_reducible refine' st_lst ?_
  | with_reducible refine' st_call ?_
  | with_reducible refine' st_callN ?_
  | with_reducible refine' st_isN ?_
  | with_reducible refine' st_notN ?_
  | with_reducible refine' st_and ?_
  | with_reducible refine' st_or ?_
  | with_reducible refine' st_not ?_
  | with_reducible refine' st_andV ?_
  | with_reducible refine' st_orV ?_
  | with_reducible refine' st_notV ?_
  | with_reducible refine' st_ifE ?_
  | with_reducible refine' st_chain ?_
  | with_reducible refine' st_tru ?_
  | with_reducible refine' st_add ?_
  | with_reducible refine' st_sub ?_
  | with_reducible refine' st_eqI ?_
  | with_reducible refine' st_neI ?_
  | with_reducible refine' st_eqS ?_
  | with_reducible refine' st_eqB ?_
  | with_reducible refine' st_neB ?_
  | with_reducible refine' st_ltI ?_
  | with_reducible refine' st_gtI ?_
  | with_reducible refine' st_leI ?_
  | with_reducible refine' st_geI ?_
  | with_reducible refine' st_lenL ?_
  | with_reducible refine' st_lenT ?_
  | with_reducible refine' st_int ?_
  | with_reducible refine' st_intB ?_
  | with_reducible refine' st_isi ?_
  | with_reducible refine' st_isi2 ?_
  | with_reducible refine' st_sl ?_
  | with_reducible refine' st_slN ?_
  | with_reducible refine' st_nopart ?_
  | with_reducible refine' st_part ?_
  | with_reducible refine' st_rev ?_
  | with_reducible refine' ex_list ?_
  | with_reducible refine' ex_tuple ?_
  | with_reducible refine' st_slL ?_
  | with_reducible refine' st_slT ?_
  | with_reducible refine' st_listL ?_
  | with_reducible refine' st_listT ?_
  | with_reducible refine' st_tupleL ?_
  | with_reducible refine' st_int2 ?_
  | with_reducible refine' st_own ?_
  | with_reducible refine' st_for ?_
  | with_reducible refine' st_iLst ?_
  | with_reducible refine' st_iTup ?_
  | with_reducible refine' st_iRg1 ?_
  | with_reducible refine' st_iRg2 ?_
  | with_reducible refine' st_yes ?_
  | with_reducible refine' st_gCons ?_
  | with_reducible refine' st_gNil ?_
  | with_reducible refine' st_cNil ?_
  | with_reducible refine' st_cCons ?_
  | with_reducible refine' st_callF ?_
  | with_reducible refine' st_callNw ?_
  | with_reducible refine' st_retNew ?_
  | with_reducible refine' st_neg ?_
  | ((with_reducible refine' and_ok ?k1 ?_); (case k1 => exact rfl))
  | ((with_reducible refine' st_lenO ?k1 ?_); (case k1 => exact rfl))
  | ((with_reducible refine' st_aug ?k1 ?_); (case k1 => exact rfl))
  | ((with_reducible refine' st_app ?k1 ?_); (case k1 => exact rfl))
  | ((with_reducible refine' st_frz ?k1 ?_); (case k1 => exact rfl))
  | ((with_reducible refine' st_sfrz ?k1 ?_); (case k1 => exact rfl))
  | ((with_reducible refine' st_gTup ?k1 ?_); (case k1 => exact rfl))
  | ((with_reducible refine' st_cLend ?k1 ?_); (case k1 => exact rfl))
  | ((with_reducible refine' st_retOwn ?k1 ?_); (case k1 => exact rfl))
  | ((with_reducible refine' st_ixO ?k1 ?_); (case k1 => exact rfl))
  | ((with_reducible refine' own_ok ?k1 (fun p => ?_)); (case k1 => exact rfl))
  | ((with_reducible refine' st_mulR ?k1 ?_); (case k1 => decide))
  | ((with_reducible refine' st_mulL ?k1 ?_); (case k1 => decide))
  | ((with_reducible refine' st_mod ?k1 ?_); (case k1 => decide))
  | ((with_reducible refine' st_fdiv ?k1 ?_); (case k1 => decide))
  | ((with_reducible refine' st_pow ?k1 ?_); (case k1 => decide)))
local macro_rules | `(tactic| walk_at "w") => `(tactic| repeat (first | walk_at "1" | with_reducible refine' st_if ?_ | dsimp only [List.set]))
local macro_rules | `(tactic| walk_at "v") => `(tactic| repeat (first | walk_at "1" | dsimp only [List.set]))
local macro_rules | `(tactic| walk_at "s") => `(tactic| (dsimp only [List.set, back, wipeD, mixD]))
local macro_rules | `(tactic| walk_at "o") => `(tactic| simp only [List.set, outs, oneOut, ↓reduceIte])

def topS (i : Nat) : Stmt := PySem.Challenge.pw_leastplans_k69_sorted_counted_by_halves.main.body.getD i (.Pass ⟨0, 0, 0, 0⟩)
abbrev s_sorted_counted : Stmt := topS 1
theorem sc_sorted_counted : FnScope ["rows", "ranks", "order", "counted", "place"] ["rows", "ranks"] (defScope s_sorted_counted) := ⟨rfl, rfl, rfl, by decide +kernel, rfl, by decide +kernel, by decide +kernel⟩
abbrev s_halves_sorted : Stmt := topS 2
theorem sc_halves_sorted : FnScope ["ranks", "places", "half", "first", "one", "others", "two", "merged_places", "three"] ["ranks", "places"] (defScope s_halves_sorted) := ⟨rfl, rfl, rfl, by decide +kernel, rfl, by decide +kernel, by decide +kernel⟩
abbrev s_halves_merged : Stmt := topS 3
theorem sc_halves_merged : FnScope ["ranks", "first", "others", "out", "counted", "left", "right"] ["ranks", "first", "others"] (defScope s_halves_merged) := ⟨rfl, rfl, rfl, by decide +kernel, rfl, by decide +kernel, by decide +kernel⟩
abbrev s_law_deal : Stmt := topS 5
theorem sc_law_deal : FnScope ["_law_script", "_law_seed", "_law_row", "_law_cell", "_law_rest", "_law_k"] ["_law_script"] (defScope s_law_deal) := ⟨rfl, rfl, rfl, by decide +kernel, rfl, by decide +kernel, by decide +kernel⟩
abbrev s_law_pick : Stmt := topS 6
theorem sc_law_pick : FnScope ["_law_deal_here", "_law_many"] ["_law_deal_here", "_law_many"] (defScope s_law_pick) := ⟨rfl, rfl, rfl, by decide +kernel, rfl, by decide +kernel, by decide +kernel⟩
abbrev s_law_rank : Stmt := topS 7
theorem sc_law_rank : FnScope ["_law_deal_here", "_law_way", "_law_number"] ["_law_deal_here", "_law_way"] (defScope s_law_rank) := ⟨rfl, rfl, rfl, by decide +kernel, rfl, by decide +kernel, by decide +kernel⟩
abbrev s_law_thing : Stmt := topS 8
theorem sc_law_thing : FnScope ["_law_deal_here", "_law_at", "_law_number"] ["_law_deal_here", "_law_at"] (defScope s_law_thing) := ⟨rfl, rfl, rfl, by decide +kernel, rfl, by decide +kernel, by decide +kernel⟩
abbrev s_law_scene : Stmt := topS 9
theorem sc_law_scene : FnScope ["_law_deal_here", "_law_wide", "_law_ways", "_law_many", "_law_ranks", "_law_k", "_law_form", "_law_half", "_law_rows", "_law_one_here", "_law_way"] ["_law_deal_here"] (defScope s_law_scene) := ⟨rfl, rfl, rfl, by decide +kernel, rfl, by decide +kernel, by decide +kernel⟩
abbrev s_law_same : Stmt := topS 10
theorem sc_law_same : FnScope ["_law_one_here", "_law_other", "_law_k"] ["_law_one_here", "_law_other"] (defScope s_law_same) := ⟨rfl, rfl, rfl, by decide +kernel, rfl, by decide +kernel, by decide +kernel⟩
abbrev s_law_sorted : Stmt := topS 11
theorem sc_law_sorted : FnScope ["_law_rows", "_law_ranks", "_law_out", "_law_k", "_law_at", "_law_row", "_law_one_here"] ["_law_rows", "_law_ranks"] (defScope s_law_sorted) := ⟨rfl, rfl, rfl, by decide +kernel, rfl, by decide +kernel, by decide +kernel⟩
abbrev s_law_compared : Stmt := topS 12
theorem sc_law_compared : FnScope ["_law_ranks", "_law_many", "_law_first", "_law_others", "_law_left", "_law_one_here"] ["_law_ranks"] (defScope s_law_compared) := ⟨rfl, rfl, rfl, by decide +kernel, rfl, by decide +kernel, by decide +kernel⟩
abbrev s_law_least : Stmt := topS 13
theorem sc_law_least : FnScope ["_law_many"] ["_law_many"] (defScope s_law_least) := ⟨rfl, rfl, rfl, by decide +kernel, rfl, by decide +kernel, by decide +kernel⟩
abbrev s_law_lift : Stmt := topS 14
theorem sc_law_lift : FnScope ["_law_many", "_law_out", "_law_size", "_law_k"] ["_law_many"] (defScope s_law_lift) := ⟨rfl, rfl, rfl, by decide +kernel, rfl, by decide +kernel, by decide +kernel⟩
abbrev s_law_good : Stmt := topS 15
theorem sc_law_good : FnScope ["_law_told", "_law_rows", "_law_ranks"] ["_law_told", "_law_rows", "_law_ranks"] (defScope s_law_good) := ⟨rfl, rfl, rfl, by decide +kernel, rfl, by decide +kernel, by decide +kernel⟩
abbrev s_law_one : Stmt := topS 16
theorem sc_law_one : FnScope ["_law_rows", "_law_ranks", "_law_mine", "_law_marks", "_law_told", "_law_again"] ["_law_rows", "_law_ranks"] (defScope s_law_one) := ⟨rfl, rfl, rfl, by decide +kernel, rfl, by decide +kernel, by decide +kernel⟩
abbrev s_law : Stmt := topS 17
theorem sc_law : FnScope ["_law_script", "_law_deal_here", "_law_k", "_law_rows", "_law_ranks", "_law_one_here"] ["_law_script"] (defScope s_law) := ⟨rfl, rfl, rfl, by decide +kernel, rfl, by decide +kernel, by decide +kernel⟩
structure Fs (K : PySem.W.Frag) (mg : Str → Option Value) where
  a_sorted_counted : Addr
  d_sorted_counted : FuncData
  F_sorted_counted : Fun K "sorted_counted" "sorted_counted" s_sorted_counted a_sorted_counted d_sorted_counted
  b_sorted_counted : Binds K d_sorted_counted ["rows", "ranks"] []
  m_sorted_counted : mg "sorted_counted" = some (.ref a_sorted_counted)
  a_halves_sorted : Addr
  d_halves_sorted : FuncData
  F_halves_sorted : Fun K "_halves_sorted" "_halves_sorted" s_halves_sorted a_halves_sorted d_halves_sorted
  b_halves_sorted : Binds K d_halves_sorted ["ranks", "places"] []
  m_halves_sorted : mg "_halves_sorted" = some (.ref a_halves_sorted)
  a_halves_merged : Addr
  d_halves_merged : FuncData
  F_halves_merged : Fun K "_halves_merged" "_halves_merged" s_halves_merged a_halves_merged d_halves_merged
  b_halves_merged : Binds K d_halves_merged ["ranks", "first", "others"] []
  m_halves_merged : mg "_halves_merged" = some (.ref a_halves_merged)
  a_law_deal : Addr
  d_law_deal : FuncData
  F_law_deal : Fun K "_law_deal" "_law_deal" s_law_deal a_law_deal d_law_deal
  b_law_deal : Binds K d_law_deal ["_law_script"] []
  m_law_deal : mg "_law_deal" = some (.ref a_law_deal)
  a_law_pick : Addr
  d_law_pick : FuncData
  F_law_pick : Fun K "_law_pick" "_law_pick" s_law_pick a_law_pick d_law_pick
  b_law_pick : Binds K d_law_pick ["_law_deal_here", "_law_many"] []
  m_law_pick : mg "_law_pick" = some (.ref a_law_pick)
  a_law_rank : Addr
  d_law_rank : FuncData
  F_law_rank : Fun K "_law_rank" "_law_rank" s_law_rank a_law_rank d_law_rank
  b_law_rank : Binds K d_law_rank ["_law_deal_here", "_law_way"] []
  m_law_rank : mg "_law_rank" = some (.ref a_law_rank)
  a_law_thing : Addr
  d_law_thing : FuncData
  F_law_thing : Fun K "_law_thing" "_law_thing" s_law_thing a_law_thing d_law_thing
  b_law_thing : Binds K d_law_thing ["_law_deal_here", "_law_at"] []
  m_law_thing : mg "_law_thing" = some (.ref a_law_thing)
  a_law_scene : Addr
  d_law_scene : FuncData
  F_law_scene : Fun K "_law_scene" "_law_scene" s_law_scene a_law_scene d_law_scene
  b_law_scene : Binds K d_law_scene ["_law_deal_here"] []
  m_law_scene : mg "_law_scene" = some (.ref a_law_scene)
  a_law_same : Addr
  d_law_same : FuncData
  F_law_same : Fun K "_law_same" "_law_same" s_law_same a_law_same d_law_same
  b_law_same : Binds K d_law_same ["_law_one_here", "_law_other"] []
  m_law_same : mg "_law_same" = some (.ref a_law_same)
  a_law_sorted : Addr
  d_law_sorted : FuncData
  F_law_sorted : Fun K "_law_sorted" "_law_sorted" s_law_sorted a_law_sorted d_law_sorted
  b_law_sorted : Binds K d_law_sorted ["_law_rows", "_law_ranks"] []
  m_law_sorted : mg "_law_sorted" = some (.ref a_law_sorted)
  a_law_compared : Addr
  d_law_compared : FuncData
  F_law_compared : Fun K "_law_compared" "_law_compared" s_law_compared a_law_compared d_law_compared
  b_law_compared : Binds K d_law_compared ["_law_ranks"] []
  m_law_compared : mg "_law_compared" = some (.ref a_law_compared)
  a_law_least : Addr
  d_law_least : FuncData
  F_law_least : Fun K "_law_least" "_law_least" s_law_least a_law_least d_law_least
  b_law_least : Binds K d_law_least ["_law_many"] []
  m_law_least : mg "_law_least" = some (.ref a_law_least)
  a_law_lift : Addr
  d_law_lift : FuncData
  F_law_lift : Fun K "_law_lift" "_law_lift" s_law_lift a_law_lift d_law_lift
  b_law_lift : Binds K d_law_lift ["_law_many"] []
  m_law_lift : mg "_law_lift" = some (.ref a_law_lift)
  a_law_good : Addr
  d_law_good : FuncData
  F_law_good : Fun K "_law_good" "_law_good" s_law_good a_law_good d_law_good
  b_law_good : Binds K d_law_good ["_law_told", "_law_rows", "_law_ranks"] []
  m_law_good : mg "_law_good" = some (.ref a_law_good)
  a_law_one : Addr
  d_law_one : FuncData
  F_law_one : Fun K "_law_one" "_law_one" s_law_one a_law_one d_law_one
  b_law_one : Binds K d_law_one ["_law_rows", "_law_ranks"] []
  m_law_one : mg "_law_one" = some (.ref a_law_one)
  a_law : Addr
  d_law : FuncData
  F_law : Fun K "law" "law" s_law a_law d_law
  b_law : Binds K d_law ["_law_script"] []
  m_law : mg "law" = some (.ref a_law)
structure Bt (mg : Str → Option Value) : Prop where
  b_all : mg "all" = none
  b_bool : mg "bool" = none
  b_int : mg "int" = none
  b_isinstance : mg "isinstance" = none
  b_len : mg "len" = none
  b_list : mg "list" = none
  b_max : mg "max" = none
  b_min : mg "min" = none
  b_range : mg "range" = none
  b_sorted : mg "sorted" = none
  b_str : mg "str" = none
  b_tuple : mg "tuple" = none
def natD (n : Nat) : D := .int (n : Int)
mutual
def smallD : D → Bool
  | .list xs => decide (xs.length ≤ 1000) && smallAll xs
  | .tuple xs => decide (xs.length ≤ 1000) && smallAll xs
  | _ => true
def smallAll : List D → Bool
  | [] => true
  | x :: xs => smallD x && smallAll xs
end
def GoodKeys (ks : List D) : Prop := PySem.W.AllAlike ks ∧ (∀ d ∈ ks, ∃ x r, d = .tuple (x :: r)) ∧ (∀ d ∈ ks, d.depth ≤ 10) ∧ (∀ d ∈ ks, smallD d = true) ∧ ∀ d ∈ ks, d.plain = true
def RowOk (d : D) : Prop := d.depth ≤ 1 ∧ smallD d = true ∧ d.plain = true
def keyAt (ks : List D) (i : Nat) : D := ks.getD i .none
def ltK (ks : List D) (i j : Nat) : Bool := PySem.W.dataLt (keyAt ks i) (keyAt ks j)
def mrg (lt : Nat → Nat → Bool) : List Nat → List Nat → List Nat × Nat
  | [], bs => (bs, 0)
  | a :: as, [] => (a :: as, 0)
  | a :: as, b :: bs => if lt b a = true then (b :: (mrg lt (a :: as) bs).1, (mrg lt (a :: as) bs).2 + 1) else (a :: (mrg lt as (b :: bs)).1, (mrg lt as (b :: bs)).2 + 1)
termination_by as bs => as.length + bs.length
def srt (lt : Nat → Nat → Bool) : Nat → List Nat → List Nat × Nat
  | 0, ps => (ps, 0)
  | k + 1, ps => if ps.length < 2 then (ps, 0) else
    let a := srt lt k (ps.take (ps.length / 2))
    let b := srt lt k (ps.drop (ps.length / 2))
    let m := mrg lt a.1 b.1
    (m.1, a.2 + b.2 + m.2)
def lessAt (ks : List D) (k : Nat) : Nat := (ks.filter fun d => PySem.W.dataLt d (keyAt ks k)).length + ((ks.take k).filter fun d => PyData.eqv d (keyAt ks k)).length
def lsorted (rs ks : List D) : List D := (List.range rs.length).foldl (fun out k => out.set (lessAt ks k) (rs.getD k .none)) (rs.map fun _ => .none)
def cmpF : Nat → List D → Int
  | 0, _ => 0
  | k + 1, ks => if ks.length < 2 then 0 else
    let f := ks.take (ks.length / 2)
    let o := ks.drop (ks.length / 2)
    let mf := PySem.W.maxD (f.headD .none) f.tail
    let mo := PySem.W.maxD (o.headD .none) o.tail
    let left : Nat := if PySem.W.dataLt mo mf = true then (f.filter fun d => PySem.W.dataLt mo d).length else (o.filter fun d => !PySem.W.dataLt d mf).length
    cmpF k f + cmpF k o + (ks.length : Int) - (left : Int)
def leastF : Nat → Int → Int
  | 0, _ => 0
  | k + 1, n => if n < 2 then 0 else n / 2 + leastF k (n / 2) + leastF k (n - n / 2)
def liftF : Nat → Nat → Nat → Nat → Nat × Nat
  | 0, _, out, size => (out, size)
  | k + 1, m, out, size => if size ≥ m then (out, size) else liftF k m (out + 1) (2 * size)
def lift (m : Nat) : Nat := (liftF m m 0 1).1
abbrev deck (p : Addr) (ns : List Int) : SD := .ow p (.lst (ns.map PyData.int))
def sp_law_pick : DSp := fun as Q => ∃ (p : Addr) (ns : List Int) (m : Int), as = [deck p ns, .dt (.int m)] ∧ 0 < m ∧ ∀ (r : Int) (ns' : List Int), 0 ≤ r → r < m → Q (.dt (.int r)) [deck p ns', .un]
inductive Rk where
  | nul
  | num (n : Int)
  | txt (x : Str)
def encR : Rk → D
  | .nul => .tuple [.int 0]
  | .num n => .tuple [.int 1, .int n]
  | .txt x => .tuple [.int 1, .str x]
def RkOf (way : Int) : Rk → Prop
  | .nul => True
  | .num _ => way ≠ 1
  | .txt _ => way = 1
def sp_law_rank : DSp := fun as Q => ∃ (p : Addr) (ns : List Int) (way : Int), as = [deck p ns, .dt (.int way)] ∧ ∀ (r : Rk) (ns' : List Int), RkOf way r → Q (.dt (encR r)) [deck p ns', .un]
def sp_law_thing : DSp := fun as Q => ∃ (p : Addr) (ns : List Int) (k : Int), as = [deck p ns, .dt (.int k)] ∧ ∀ (d : D) (ns' : List Int), RowOk d → Q (.dt d) [deck p ns', .un]
def sp_law_deal : DSp := fun as Q => ∃ (ns : List Int), as = [.dt (.list (ns.map .int))] ∧ ns.length ≤ 63 ∧ ∀ ns' : List Int, Q (.new (ns'.map .int)) [.un]
def sp_law_scene : DSp := fun as Q => ∃ (p : Addr) (ns : List Int), as = [deck p ns] ∧ ∀ (rs ks : List D) (ns' : List Int), rs.length = ks.length → rs.length ≤ 61 → GoodKeys ks → (∀ d ∈ rs, RowOk d) → Q (.dt (.tuple [.list rs, .list ks])) [deck p ns']
def sp_halves_merged : DSp := fun as Q => ∃ (ks : List D) (fs os : List Nat), as = [.dt (.list ks), .dt (.list (fs.map natD)), .dt (.list (os.map natD))] ∧ GoodKeys ks ∧ (∀ i ∈ fs, i < ks.length) ∧ (∀ i ∈ os, i < ks.length) ∧ fs.length + os.length ≤ 1000 ∧
  Q (.dt (.tuple [.list ((mrg (ltK ks) fs os).1.map natD), .int ((mrg (ltK ks) fs os).2 : Nat)])) [.un, .un, .un]
def sp_halves_sorted (n : Nat) : DSp := fun as Q => ∃ (ks : List D) (ps : List Nat), as = [.dt (.list ks), .dt (.list (ps.map natD))] ∧ GoodKeys ks ∧ (∀ i ∈ ps, i < ks.length) ∧ ps.length ≤ 1000 ∧ ps.length < n ∧
  Q (.dt (.tuple [.list ((srt (ltK ks) n ps).1.map natD), .int ((srt (ltK ks) n ps).2 : Nat)])) [.un, .un]
def sp_law_same (n : Nat) : DSp := fun as Q => ∃ (d : D), as = [.dt d, .dt d] ∧ d.plain = true ∧ d.depth < n ∧ smallD d = true ∧ Q (.dt (.bool true)) [.un, .un]
def sp_law_sorted : DSp := fun as Q => ∃ (rs ks : List D), as = [.dt (.list rs), .dt (.list ks)] ∧ rs.length = ks.length ∧ rs.length ≤ 1000 ∧ GoodKeys ks ∧ Q (.dt (.list (lsorted rs ks))) [.un, .un]
def sp_law_compared (n : Nat) : DSp := fun as Q => ∃ (ks : List D), as = [.dt (.list ks)] ∧ ks.length ≤ 1000 ∧ ks.length < n ∧ GoodKeys ks ∧ Q (.dt (.int (cmpF n ks))) [.un]
def sp_law_least (n : Nat) : DSp := fun as Q => ∃ (m : Nat), as = [.dt (natD m)] ∧ m < n ∧ Q (.dt (.int (leastF n m))) [.un]
def sp_law_lift : DSp := fun as Q => ∃ (m : Nat), as = [.dt (natD m)] ∧ m ≤ 1000 ∧ Q (.dt (natD (lift m))) [.un]
def sp_law_good : DSp := fun as Q => ∃ (rs ks : List D) (c : Int), as = [.dt (.tuple [.list (lsorted rs ks), .int c]), .dt (.list rs), .dt (.list ks)] ∧ rs.length = ks.length ∧ rs.length ≤ 63 ∧ GoodKeys ks ∧ (∀ d ∈ rs, RowOk d) ∧ c = cmpF 64 ks ∧ Q (.dt (.bool true)) [.un, .un, .un]
def sp_law_one : DSp := fun as Q => ∃ (rs ks : List D), as = [.dt (.list rs), .dt (.list ks)] ∧ rs.length = ks.length ∧ rs.length ≤ 63 ∧ GoodKeys ks ∧ (∀ d ∈ rs, RowOk d) ∧ Q (.dt (.bool true)) [.un, .un]
def rd_halves_sorted (n : Nat) : TDS := (sSeq (sIf (dTest (dOp ltD (dCall lenD (dCons (dVar 1) dNil)) (dC (.int 2)))) (sRet (dTup (dCons (dVar 1) (dCons (dC (.int 0)) dNil)))) sNext) (sSeq (sAsg (dOp fdivD (dCall lenD (dCons (dVar 1) dNil)) (dC (.int 2))) (dgName 2)) (sSeq (sAsg (dCallF (sp_halves_sorted n) (cCons (dVar 0) (cCons (dSl (dVar 1) dNoPart (dPart (dVar 2))) cNil))) (dgTup 2 (dgCons (dgName 3) (dgCons (dgName 4) dgNil)))) (sSeq (sAsg (dCallF (sp_halves_sorted n) (cCons (dVar 0) (cCons (dSl (dVar 1) (dPart (dVar 2)) dNoPart) cNil))) (dgTup 2 (dgCons (dgName 5) (dgCons (dgName 6) dgNil)))) (sSeq (sAsg (dCallF sp_halves_merged (cCons (dVar 0) (cCons (dVar 3) (cCons (dVar 5) cNil)))) (dgTup 2 (dgCons (dgName 7) (dgCons (dgName 8) dgNil)))) (sRet (dTup (dCons (dVar 7) (dCons (dOp addD (dOp addD (dVar 4) (dVar 6)) (dVar 8)) dNil)))))))))
def rd_halves_merged : TDS := (sSeq (sOwn (dLst dNil) 3) (sSeq (sAsg (dC (.int 0)) (dgName 4)) (sSeq (sAsg (dC (.int 0)) (dgName 5)) (sSeq (sAsg (dC (.int 0)) (dgName 6)) (sSeq (sWhile (dAnd (dTest (dOp ltD (dVar 5) (dCall lenD (dCons (dVar 1) dNil)))) (dTest (dOp ltD (dVar 6) (dCall lenD (dCons (dVar 2) dNil))))) (sSeq (sAug 4 (dC (.int 1)) (fun i j => i + j)) (sIf (dTest (dOp ltD (dOp ixD (dVar 0) (dOp ixD (dVar 2) (dVar 6))) (dOp ixD (dVar 0) (dOp ixD (dVar 1) (dVar 5))))) (sSeq (sApp 3 (dOp ixD (dVar 2) (dVar 6))) (sAug 6 (dC (.int 1)) (fun i j => i + j))) (sSeq (sApp 3 (dOp ixD (dVar 1) (dVar 5))) (sAug 5 (dC (.int 1)) (fun i j => i + j)))))) (sRet (dTup (dCons (dOp addD (dOp addD (dFrz 3) (dSl (dVar 1) (dPart (dVar 5)) dNoPart)) (dSl (dVar 2) (dPart (dVar 6)) dNoPart)) (dCons (dVar 4) dNil)))))))))
def rd_law_deal : TDS := (sSeq (sAsg (dOp addD (dC (.int 5741)) (dOp mulD (dC (.int 29)) (dCall lenD (dCons (dVar 0) dNil)))) (dgName 1)) (sSeq (sOwn (dLst dNil) 2) (sSeq (sFor (iLst (dVar 0)) (dgName 3) (sSeq (sAsg (dCall toIntD (dCons (dVar 3) dNil)) (dgName 4)) (sSeq (sIf (dTest (dOp ltD (dVar 4) (dC (.int 0)))) (sAsg (dOp subD (dC (.int 3)) (dOp mulD (dC (.int 2)) (dVar 4))) (dgName 4)) sNext) (sIf (dTest (dOp geD (dVar 4) (dOp powD (dC (.int 10)) (dC (.int 18))))) (sFor (iRg1 (dCons (dC (.int 58)) dNil)) (dgName 5) (sSeq (sIf (dTest (dOp eqD (dVar 4) (dC (.int 0)))) sBreak sNext) (sSeq (sApp 2 (dOp modD (dCall toIntD (dCons (dVar 4) dNil)) (dC (.int 27720)))) (sAsg (dOp fdivD (dVar 4) (dC (.int 27720))) (dgName 4))))) (sSeq (sAsg (dOp modD (dCall toIntD (dCons (dOp addD (dOp addD (dOp mulD (dVar 1) (dC (.int 48271))) (dOp mulD (dVar 4) (dC (.int 16807)))) (dC (.int 23))) dNil)) (dC (.int 2147483647))) (dgName 1)) (sApp 2 (dOp fdivD (dOp modD (dCall toIntD (dCons (dOp addD (dOp mulD (dVar 1) (dC (.int 40014))) (dVar 4)) dNil)) (dC (.int 2147483563))) (dC (.int 17))))))))) (sSeq (sFor (iRg1 (dCons (dC (.int 260)) dNil)) (dgName 5) (sIf (dTest (dOp ltD (dLenO 2) (dC (.int 260)))) (sSeq (sAsg (dOp modD (dCall toIntD (dCons (dOp addD (dOp addD (dOp mulD (dVar 1) (dC (.int 69621))) (dVar 5)) (dC (.int 5))) dNil)) (dC (.int 2147483647))) (dgName 1)) (sApp 2 (dOp fdivD (dVar 1) (dC (.int 19))))) sNext)) (sRetNew (dRev (dFrz 2)))))))
def rd_law_pick : TDS := (sSeq (sIf (dTest (dOp eqD (dLenO 0) (dC (.int 0)))) (sRet (dC (.int 0))) sNext) (sRet (dOp modD (dCall toIntD (dCons (dPop 0) dNil)) (dVar 1))))
def rd_law_rank : TDS := (sSeq (sAsg (dCallF sp_law_pick (cLendT 0 (cCons (dC (.int 11)) cNil))) (dgName 2)) (sSeq (sIf (dTest (dOp eqD (dVar 2) (dC (.int 10)))) (sRet (dTup (dCons (dC (.int 0)) dNil))) sNext) (sSeq (sIf (dTest (dOp eqD (dVar 1) (dC (.int 1)))) (sRet (dTup (dCons (dC (.int 1)) (dCons (dSl (dC (.str "abcd")) (dPart (dOp modD (dVar 2) (dC (.int 4)))) (dPart (dOp addD (dOp addD (dOp modD (dVar 2) (dC (.int 4))) (dC (.int 1))) (dOp fdivD (dVar 2) (dC (.int 4)))))) dNil)))) sNext) (sSeq (sIf (dTest (dOp eqD (dVar 1) (dC (.int 2)))) (sRet (dTup (dCons (dC (.int 1)) (dCons (dOp addD (dOp mulD (dOp subD (dVar 2) (dC (.int 5))) (dOp powD (dC (.int 10)) (dC (.int 48)))) (dCallF sp_law_pick (cLendT 0 (cCons (dC (.int 3)) cNil)))) dNil)))) sNext) (sSeq (sIf (dTest (dOp eqD (dVar 1) (dC (.int 3)))) (sRet (dTup (dCons (dC (.int 1)) (dCons (dOp subD (dOp addD (dOp mulD (dVar 2) (dC (.int 40))) (dCallF sp_law_pick (cLendT 0 (cCons (dC (.int 40)) cNil)))) (dC (.int 200))) dNil)))) sNext) (sRet (dTup (dCons (dC (.int 1)) (dCons (dOp modD (dVar 2) (dC (.int 3))) dNil)))))))))
def rd_law_thing : TDS := (sSeq (sAsg (dCallF sp_law_pick (cLendT 0 (cCons (dC (.int 12)) cNil))) (dgName 2)) (sSeq (sIf (dTest (dOp eqD (dVar 2) (dC (.int 0)))) (sRet (dC .none)) sNext) (sSeq (sIf (dTest (dOp eqD (dVar 2) (dC (.int 1)))) (sRet (dC (.bool true))) sNext) (sSeq (sIf (dTest (dOp eqD (dVar 2) (dC (.int 2)))) (sRet (dC (.int 1))) sNext) (sSeq (sIf (dTest (dOp eqD (dVar 2) (dC (.int 3)))) (sRet (dC (.str "x"))) sNext) (sSeq (sIf (dTest (dOp eqD (dVar 2) (dC (.int 4)))) (sRet (dN (dLst (dCons (dVar 1) (dCons (dC (.str "y")) dNil))))) sNext) (sSeq (sIf (dTest (dOp ltD (dVar 2) (dC (.int 8)))) (sRet (dTup (dCons (dVar 1) (dCons (dC .none) (dCons (dVar 2) dNil))))) sNext) (sRet (dVar 1)))))))))
def rd_law_scene : TDS := (sSeq (sAsg (dOp addD (dOp addD (dC (.int 1)) (dOp fdivD (dCallF sp_law_pick (cLendT 0 (cCons (dC (.int 6)) cNil))) (dC (.int 3)))) (dOp fdivD (dCallF sp_law_pick (cLendT 0 (cCons (dC (.int 4)) cNil))) (dC (.int 3)))) (dgName 1)) (sSeq (sAsg (dN (dLc (iRg1 (dCons (dVar 1) dNil)) (dgName 5) dYes (dCallF sp_law_pick (cLendT 0 (cCons (dC (.int 5)) cNil))) [5])) (dgName 2)) (sSeq (sAsg (dCallF sp_law_pick (cLendT 0 (cCons (dC (.int 8)) cNil))) (dgName 3)) (sSeq (sIf (dTest (dOp gtD (dCallF sp_law_pick (cLendT 0 (cCons (dC (.int 3)) cNil))) (dC (.int 0)))) (sAsg (dCallF sp_law_pick (cLendT 0 (cCons (dC (.int 61)) cNil))) (dgName 3)) sNext) (sSeq (sIf (dTest (dOp gtD (dVar 1) (dC (.int 1)))) (sAsg (dCall (int2D fun i j => if j < i then j else i) (dCons (dVar 3) (dCons (dC (.int 24)) dNil))) (dgName 3)) sNext) (sSeq (sOwn (dLst dNil) 4) (sSeq (sFor (iRg1 (dCons (dVar 3) dNil)) (dgName 5) (sApp 4 (dCall tupleD (dCons (dN (dLc (iLst (dVar 2)) (dgName 10) dYes (dCallF sp_law_rank (cLendT 0 (cCons (dVar 10) cNil))) [10])) dNil)))) (sFrz 4 (sSeq (sAsg (dCallF sp_law_pick (cLendT 0 (cCons (dC (.int 9)) cNil))) (dgName 6)) (sSeq (sIf (dTest (dOp eqD (dVar 6) (dC (.int 0)))) (sAsg (dN (dCallN sortD (dCons (dVar 4) dNil))) (dgName 4)) sNext) (sSeq (sIf (dTest (dOp eqD (dVar 6) (dC (.int 1)))) (sAsg (dN (dCallN sortD (dCons (dVar 4) dNil))) (dgName 4)) sNext) (sSeq (sIf (dAnd (dTest (dOp eqD (dVar 6) (dC (.int 2)))) (dTest (dOp gtD (dVar 3) (dC (.int 0))))) (sAsg (dN (dLc (iLst (dVar 4)) (dgName 9) dYes (dOp ixD (dVar 4) (dC (.int 0))) [9])) (dgName 4)) sNext) (sSeq (sIf (dTest (dOp eqD (dVar 6) (dC (.int 3)))) (sSeq (sAsg (dOp fdivD (dCall lenD (dCons (dVar 4) dNil)) (dC (.int 2))) (dgName 7)) (sAsg (dOp addD (dN (dCallN sortD (dCons (dSl (dVar 4) (dPart (dVar 7)) dNoPart) dNil))) (dN (dCallN sortD (dCons (dSl (dVar 4) dNoPart (dPart (dVar 7))) dNil)))) (dgName 4))) sNext) (sSeq (sOwn (dLc (iRg1 (dCons (dVar 3) dNil)) (dgName 5) dYes (dCallF sp_law_thing (cLendT 0 (cCons (dVar 5) cNil))) [5]) 8) (sSeq (sIf (dAnd (dTest (dOp gtD (dVar 3) (dC (.int 3)))) (dTest (dOp gtD (dVar 6) (dC (.int 5))))) (sSetO 8 (dOp subD (dVar 3) (dC (.int 1))) (dIxO 8 (dC (.int 1)))) sNext) (sRet (dTup (dCons (dFrz 8) (dCons (dVar 4) dNil)))))))))))))))))))
def rd_law_same (n : Nat) : TDS := (sSeq (sIf (dTest (dIsi2 "list" "tuple" (dVar 0))) (sSeq (sIf (dOr (dTest (dOp neD (dIsi "list" (dVar 0)) (dIsi "list" (dVar 1)))) (dTest (dOp neD (dIsi "tuple" (dVar 0)) (dIsi "tuple" (dVar 1))))) (sRet (dC (.bool false))) sNext) (sSeq (sIf (dTest (dOp neD (dCall lenD (dCons (dVar 0) dNil)) (dCall lenD (dCons (dVar 1) dNil)))) (sRet (dC (.bool false))) sNext) (sRet (dCall (boolsD fun bs => bs.all id) (dCons (dN (dLc (iRg1 (dCons (dCall lenD (dCons (dVar 0) dNil)) dNil)) (dgName 2) dYes (dCallF (sp_law_same n) (cCons (dOp ixD (dVar 0) (dVar 2)) (cCons (dOp ixD (dVar 1) (dVar 2)) cNil))) [2])) dNil))))) sNext) (sSeq (sIf (dOr (dTest (dIsN (dVar 0))) (dTest (dIsN (dVar 1)))) (sRet (dAndV (dIsN (dVar 0)) (dIsN (dVar 1)))) sNext) (sSeq (sIf (dOr (dTest (dOp neD (dIsi "bool" (dVar 0)) (dIsi "bool" (dVar 1)))) (dTest (dOp neD (dIsi "int" (dVar 0)) (dIsi "int" (dVar 1))))) (sRet (dC (.bool false))) sNext) (sSeq (sIf (dOr (dTest (dOp neD (dIsi "str" (dVar 0)) (dIsi "str" (dVar 1)))) (dTest (dIsi2 "list" "tuple" (dVar 1)))) (sRet (dC (.bool false))) sNext) (sRet (dOp eqD (dVar 0) (dVar 1)))))))
def rd_law_sorted : TDS := (sSeq (sOwn (dLc (iLst (dVar 0)) (dgName 5) dYes (dC .none) [5]) 2) (sSeq (sFor (iRg1 (dCons (dCall lenD (dCons (dVar 0) dNil)) dNil)) (dgName 3) (sSeq (sAsg (dOp addD (dCall lenD (dCons (dN (dLc (iLst (dVar 1)) (dgName 6) (dTest (dOp ltD (dVar 6) (dOp ixD (dVar 1) (dVar 3)))) (dVar 6) [6])) dNil)) (dCall lenD (dCons (dN (dLc (iLst (dSl (dVar 1) dNoPart (dPart (dVar 3)))) (dgName 6) (dTest (dOp eqD (dVar 6) (dOp ixD (dVar 1) (dVar 3)))) (dVar 6) [6])) dNil))) (dgName 4)) (sSetO 2 (dVar 4) (dOp ixD (dVar 0) (dVar 3))))) (sRet (dFrz 2))))
def rd_law_compared (n : Nat) : TDS := (sSeq (sAsg (dCall lenD (dCons (dVar 0) dNil)) (dgName 1)) (sSeq (sIf (dTest (dOp ltD (dVar 1) (dC (.int 2)))) (sRet (dC (.int 0))) sNext) (sSeq (sAsg (dSl (dVar 0) dNoPart (dPart (dOp fdivD (dVar 1) (dC (.int 2))))) (dgName 2)) (sSeq (sAsg (dSl (dVar 0) (dPart (dOp fdivD (dVar 1) (dC (.int 2)))) dNoPart) (dgName 3)) (sSeq (sIf (dTest (dOp geD (dCall (maxLD PySem.W.maxD) (dCons (dVar 3) dNil)) (dCall (maxLD PySem.W.maxD) (dCons (dVar 2) dNil)))) (sAsg (dCall lenD (dCons (dN (dLc (iLst (dVar 3)) (dgName 5) (dTest (dOp geD (dVar 5) (dCall (maxLD PySem.W.maxD) (dCons (dVar 2) dNil)))) (dVar 5) [5])) dNil)) (dgName 4)) (sAsg (dCall lenD (dCons (dN (dLc (iLst (dVar 2)) (dgName 5) (dTest (dOp gtD (dVar 5) (dCall (maxLD PySem.W.maxD) (dCons (dVar 3) dNil)))) (dVar 5) [5])) dNil)) (dgName 4))) (sRet (dOp subD (dOp addD (dOp addD (dCallF (sp_law_compared n) (cCons (dVar 2) cNil)) (dCallF (sp_law_compared n) (cCons (dVar 3) cNil))) (dVar 1)) (dVar 4))))))))
def rd_law_least (n : Nat) : TDS := (sSeq (sIf (dTest (dOp ltD (dVar 0) (dC (.int 2)))) (sRet (dC (.int 0))) sNext) (sRet (dOp addD (dOp addD (dOp fdivD (dVar 0) (dC (.int 2))) (dCallF (sp_law_least n) (cCons (dOp fdivD (dVar 0) (dC (.int 2))) cNil))) (dCallF (sp_law_least n) (cCons (dOp subD (dVar 0) (dOp fdivD (dVar 0) (dC (.int 2)))) cNil)))))
def rd_law_lift : TDS := (sSeq (sAsg (dC (.int 0)) (dgName 1)) (sSeq (sAsg (dC (.int 1)) (dgName 2)) (sSeq (sFor (iRg1 (dCons (dVar 0) dNil)) (dgName 3) (sSeq (sIf (dTest (dOp geD (dVar 2) (dVar 0))) sBreak sNext) (sSeq (sAsg (dOp mulD (dC (.int 2)) (dVar 2)) (dgName 2)) (sAsg (dOp addD (dVar 1) (dC (.int 1))) (dgName 1))))) (sRet (dVar 1)))))
def rd_law_good (n_law_same : Nat) (n_law_compared : Nat) (n_law_least : Nat) : TDS := (sSeq (sIf (dOr (dNot (dTest (dIsi "tuple" (dVar 0)))) (dOr (dTest (dOp neD (dCall lenD (dCons (dVar 0) dNil)) (dC (.int 2)))) (dNot (dTest (dIsi "list" (dOp ixD (dVar 0) (dC (.int 0)))))))) (sRet (dC (.bool false))) sNext) (sSeq (sIf (dOr (dNot (dTest (dIsi "int" (dOp ixD (dVar 0) (dC (.int 1)))))) (dTest (dIsi "bool" (dOp ixD (dVar 0) (dC (.int 1)))))) (sRet (dC (.bool false))) sNext) (sSeq (sIf (dOr (dNot (dTest (dCallF (sp_law_same n_law_same) (cCons (dOp ixD (dVar 0) (dC (.int 0))) (cCons (dCallF sp_law_sorted (cCons (dVar 1) (cCons (dVar 2) cNil))) cNil))))) (dTest (dOp neD (dOp ixD (dVar 0) (dC (.int 1))) (dCallF (sp_law_compared n_law_compared) (cCons (dVar 2) cNil))))) (sRet (dC (.bool false))) sNext) (sRet (dChain leD leD (dCallF (sp_law_least n_law_least) (cCons (dCall lenD (dCons (dVar 1) dNil)) cNil)) (dOp ixD (dVar 0) (dC (.int 1))) (dOp mulD (dCall lenD (dCons (dVar 1) dNil)) (dCallF sp_law_lift (cCons (dCall lenD (dCons (dVar 1) dNil)) cNil))))))))
def rd_law : TDS := (sSeq (sOwn (dCallNw sp_law_deal (cCons (dVar 0) cNil)) 1) (sSeq (sFor (iRg1 (dCons (dC (.int 2)) dNil)) (dgName 2) (sSeq (sAsg (dCallF sp_law_scene (cLendT 1 cNil)) (dgTup 2 (dgCons (dgName 3) (dgCons (dgName 4) dgNil)))) (sSeq (sIf (dNot (dTest (dCallF sp_law_one (cCons (dVar 3) (cCons (dVar 4) cNil))))) (sRet (dC (.bool false))) sNext) (sSeq (sIf (dAnd (dTest (dOp gtD (dCall lenD (dCons (dVar 3) dNil)) (dC (.int 0)))) (dNot (dTest (dCallF sp_law_one (cCons (dSl (dVar 3) dNoPart (dPart (dC (.int 1)))) (cCons (dSl (dVar 4) dNoPart (dPart (dC (.int 1)))) cNil)))))) (sRet (dC (.bool false))) sNext) (sSeq (sIf (dNot (dTest (dCallF sp_law_one (cCons (dSl (dVar 3) (dPart (dC (.int 1))) dNoPart) (cCons (dSl (dVar 4) (dPart (dC (.int 1))) dNoPart) cNil))))) (sRet (dC (.bool false))) sNext) (sIf (dNot (dTest (dCallF sp_law_one (cCons (dOp addD (dSl (dVar 3) dNoPart (dPart (dC (.int 3)))) (dN (dLc (iLst (dSl (dVar 3) dNoPart (dPart (dC (.int 1))))) (dgName 5) dYes (dOp ixD (dVar 3) (dC (.int 0))) [5]))) (cCons (dOp addD (dSl (dVar 4) dNoPart (dPart (dC (.int 3)))) (dSl (dVar 4) dNoPart (dPart (dC (.int 1))))) cNil))))) (sRet (dC (.bool false))) sNext)))))) (sRet (dCallF sp_law_one (cCons (dN (dLst dNil)) (cCons (dN (dLst dNil)) cNil))))))
section
variable {P : Program} {w : World} {K : PySem.W.Frag} {mg : Str → Option Value} {base : Heap}
theorem ok_halves_sorted {n : Nat} {dsp : DSp} {k : Nat} (Y : Fs K mg) (T : Bt mg) {k_halves_sorted : Nat} (hk_halves_sorted : k_halves_sorted ≤ k) (G_halves_sorted : FnOk P w K mg base CX0 k_halves_sorted Y.a_halves_sorted Y.d_halves_sorted ["ranks", "places"] (spOf K (sp_halves_sorted n))) {k_halves_merged : Nat} (hk_halves_merged : k_halves_merged ≤ k) (G_halves_merged : FnOk P w K mg base CX0 k_halves_merged Y.a_halves_merged Y.d_halves_merged ["ranks", "first", "others"] (spOf K sp_halves_merged)) (len : ∀ as Q, dsp as Q → as.length = 2)
    (rp : ∀ (as : List SD) (Q : RS → List SD → Prop), dsp as Q → (rd_halves_sorted n) { nx := fun δ => Q (.dt .none) (outs as δ), rt := fun d δ => Q d (outs as δ) } (startD 9 as)) :
    FnOk P w K mg base CX0 (k + 1) Y.a_halves_sorted Y.d_halves_sorted ["ranks", "places"] (spOf K dsp) :=
  fn_ok Y.F_halves_sorted sc_halves_sorted len (by decide) fun cdv A outer s H E hr => ⟨_, (rd_halves_sorted n),
    (js_cons (js_if (jt_cmp (do_lt (huD hr)) (je_callB cd_len rfl T.b_len PySem.boot_len (ja_cons (je_var 1) ja_nil)) je_int) (js_one (js_ret (je_tup (ja_cons (je_var 1) (ja_cons je_int ja_nil))))) js_nil) (js_cons (js_set (i := 2) sc_halves_sorted.nd (je_op do_fdiv (je_callB cd_len rfl T.b_len PySem.boot_len (ja_cons (je_var 1) ja_nil)) je_int)) (js_cons (js_asg (je_call G_halves_sorted (hr.mono hk_halves_sorted) Y.m_halves_sorted Y.F_halves_sorted.kp Y.b_halves_sorted (jc_cons (je_var 0) (jc_cons (je_slice (je_var 1) jo_none (jo_some (je_var 2))) jc_nil))) (jg_tup rfl (jgs_cons (jg_name (i := 3) sc_halves_sorted.nd) (jgs_cons (jg_name (i := 4) sc_halves_sorted.nd) jgs_nil)))) (js_cons (js_asg (je_call G_halves_sorted (hr.mono hk_halves_sorted) Y.m_halves_sorted Y.F_halves_sorted.kp Y.b_halves_sorted (jc_cons (je_var 0) (jc_cons (je_slice (je_var 1) (jo_some (je_var 2)) jo_none) jc_nil))) (jg_tup rfl (jgs_cons (jg_name (i := 5) sc_halves_sorted.nd) (jgs_cons (jg_name (i := 6) sc_halves_sorted.nd) jgs_nil)))) (js_cons (js_asg (je_call G_halves_merged (hr.mono hk_halves_merged) Y.m_halves_merged Y.F_halves_merged.kp Y.b_halves_merged (jc_cons (je_var 0) (jc_cons (je_var 3) (jc_cons (je_var 5) jc_nil)))) (jg_tup rfl (jgs_cons (jg_name (i := 7) sc_halves_sorted.nd) (jgs_cons (jg_name (i := 8) sc_halves_sorted.nd) jgs_nil)))) (js_one (js_ret (je_tup (ja_cons (je_var 7) (ja_cons (je_op do_add (je_op do_add (je_var 4) (je_var 6)) (je_var 8)) ja_nil)))))))))), rp⟩
theorem ok_halves_merged {dsp : DSp} {k : Nat} (Y : Fs K mg) (T : Bt mg)  (len : ∀ as Q, dsp as Q → as.length = 3)
    (rp : ∀ (as : List SD) (Q : RS → List SD → Prop), dsp as Q → rd_halves_merged { nx := fun δ => Q (.dt .none) (outs as δ), rt := fun d δ => Q d (outs as δ) } (startD 7 as)) :
    FnOk P w K mg base CX0 (k + 1) Y.a_halves_merged Y.d_halves_merged ["ranks", "first", "others"] (spOf K dsp) :=
  fn_ok Y.F_halves_merged sc_halves_merged len (by decide) fun cdv A outer s H E hr => ⟨_, rd_halves_merged,
    (js_cons (js_own (i := 3) sc_halves_merged.nd (jn_lst ja_nil)) (js_cons (js_set (i := 4) sc_halves_merged.nd je_int) (js_cons (js_set (i := 5) sc_halves_merged.nd je_int) (js_cons (js_set (i := 6) sc_halves_merged.nd je_int) (js_cons (js_while (JW.jt (jw_and (jt_cmp (do_lt (huD hr)) (je_var 5) (je_callB cd_len rfl T.b_len PySem.boot_len (ja_cons (je_var 1) ja_nil))) (jw_and1 (jt_cmp (do_lt (huD hr)) (je_var 6) (je_callB cd_len rfl T.b_len PySem.boot_len (ja_cons (je_var 2) ja_nil)))))) (js_cons (js_aug (i := 4) ip_add sc_halves_merged.nd je_int) (js_one (js_if (jt_cmp (do_lt (huD hr)) (je_ix (je_var 0) (je_ix (je_var 2) (je_var 6))) (je_ix (je_var 0) (je_ix (je_var 1) (je_var 5)))) (js_cons (js_app 3 (je_ix (je_var 2) (je_var 6))) (js_one (js_aug (i := 6) ip_add sc_halves_merged.nd je_int))) (js_cons (js_app 3 (je_ix (je_var 1) (je_var 5))) (js_one (js_aug (i := 5) ip_add sc_halves_merged.nd je_int))))))) (js_one (js_ret (je_tup (ja_cons (je_op do_add (je_op do_add (je_frz 3) (je_slice (je_var 1) (jo_some (je_var 5)) jo_none)) (je_slice (je_var 2) (jo_some (je_var 6)) jo_none)) (ja_cons (je_var 4) ja_nil)))))))))), rp⟩
theorem ok_law_deal {dsp : DSp} {k : Nat} (Y : Fs K mg) (T : Bt mg)  (len : ∀ as Q, dsp as Q → as.length = 1)
    (rp : ∀ (as : List SD) (Q : RS → List SD → Prop), dsp as Q → rd_law_deal { nx := fun δ => Q (.dt .none) (outs as δ), rt := fun d δ => Q d (outs as δ) } (startD 6 as)) :
    FnOk P w K mg base CX0 (k + 1) Y.a_law_deal Y.d_law_deal ["_law_script"] (spOf K dsp) :=
  fn_ok Y.F_law_deal sc_law_deal len (by decide) fun cdv A outer s H E hr => ⟨_, rd_law_deal,
    (js_cons (js_set (i := 1) sc_law_deal.nd (je_op do_add je_int (je_op do_mul je_int (je_callB cd_len rfl T.b_len PySem.boot_len (ja_cons (je_var 0) ja_nil))))) (js_cons (js_own (i := 2) sc_law_deal.nd (jn_lst ja_nil)) (js_cons (js_for rfl (ji_list (je_var 0)) (jg_name (i := 3) sc_law_deal.nd) (js_cons (js_set (i := 4) sc_law_deal.nd (je_callTy cd_int rfl T.b_int (by decide +kernel) (ja_cons (je_var 3) ja_nil))) (js_cons (js_if (jt_cmp (do_lt (huD hr)) (je_var 4) je_int) (js_one (js_set (i := 4) sc_law_deal.nd (je_op do_sub je_int (je_op do_mul je_int (je_var 4))))) js_nil) (js_one (js_if (jt_cmp (do_ge (huD hr)) (je_var 4) (je_op do_pow je_int je_int)) (js_one (js_for rfl (ji_range1 rfl T.b_range (ja_cons je_int ja_nil)) (jg_name (i := 5) sc_law_deal.nd) (js_cons (js_if (jt_cmp (do_eq (huD hr)) (je_var 4) je_int) (js_one js_break) js_nil) (js_cons (js_app 2 (je_op do_mod (je_callTy cd_int rfl T.b_int (by decide +kernel) (ja_cons (je_var 4) ja_nil)) je_int)) (js_one (js_set (i := 4) sc_law_deal.nd (je_op do_fdiv (je_var 4) je_int))))))) (js_cons (js_set (i := 1) sc_law_deal.nd (je_op do_mod (je_callTy cd_int rfl T.b_int (by decide +kernel) (ja_cons (je_op do_add (je_op do_add (je_op do_mul (je_var 1) je_int) (je_op do_mul (je_var 4) je_int)) je_int) ja_nil)) je_int)) (js_one (js_app 2 (je_op do_fdiv (je_op do_mod (je_callTy cd_int rfl T.b_int (by decide +kernel) (ja_cons (je_op do_add (je_op do_mul (je_var 1) je_int) (je_var 4)) ja_nil)) je_int) je_int))))))))) (js_cons (js_for rfl (ji_range1 rfl T.b_range (ja_cons je_int ja_nil)) (jg_name (i := 5) sc_law_deal.nd) (js_one (js_if (jt_cmp (do_lt (huD hr)) (je_lenO 2 rfl T.b_len) je_int) (js_cons (js_set (i := 1) sc_law_deal.nd (je_op do_mod (je_callTy cd_int rfl T.b_int (by decide +kernel) (ja_cons (je_op do_add (je_op do_add (je_op do_mul (je_var 1) je_int) (je_var 5)) je_int) ja_nil)) je_int)) (js_one (js_app 2 (je_op do_fdiv (je_var 1) je_int)))) js_nil))) (js_one (js_retNew (jn_rev (je_frz 2)))))))), rp⟩
theorem ok_law_pick {dsp : DSp} {k : Nat} (Y : Fs K mg) (T : Bt mg)  (len : ∀ as Q, dsp as Q → as.length = 2)
    (rp : ∀ (as : List SD) (Q : RS → List SD → Prop), dsp as Q → rd_law_pick { nx := fun δ => Q (.dt .none) (outs as δ), rt := fun d δ => Q d (outs as δ) } (startD 2 as)) :
    FnOk P w K mg base CX0 (k + 1) Y.a_law_pick Y.d_law_pick ["_law_deal_here", "_law_many"] (spOf K dsp) :=
  fn_ok Y.F_law_pick sc_law_pick len (by decide) fun cdv A outer s H E hr => ⟨_, rd_law_pick,
    (js_cons (js_if (jt_cmp (do_eq (huD hr)) (je_lenO 0 rfl T.b_len) je_int) (js_one (js_ret je_int)) js_nil) (js_one (js_ret (je_op do_mod (je_callTy cd_int rfl T.b_int (by decide +kernel) (ja_cons (je_pop 0) ja_nil)) (je_var 1))))), rp⟩
theorem ok_law_rank {dsp : DSp} {k : Nat} (Y : Fs K mg) (T : Bt mg) {k_law_pick : Nat} (hk_law_pick : k_law_pick ≤ k) (G_law_pick : FnOk P w K mg base CX0 k_law_pick Y.a_law_pick Y.d_law_pick ["_law_deal_here", "_law_many"] (spOf K sp_law_pick)) (len : ∀ as Q, dsp as Q → as.length = 2)
    (rp : ∀ (as : List SD) (Q : RS → List SD → Prop), dsp as Q → rd_law_rank { nx := fun δ => Q (.dt .none) (outs as δ), rt := fun d δ => Q d (outs as δ) } (startD 3 as)) :
    FnOk P w K mg base CX0 (k + 1) Y.a_law_rank Y.d_law_rank ["_law_deal_here", "_law_way"] (spOf K dsp) :=
  fn_ok Y.F_law_rank sc_law_rank len (by decide) fun cdv A outer s H E hr => ⟨_, rd_law_rank,
    (js_cons (js_set (i := 2) sc_law_rank.nd (je_call G_law_pick (hr.mono hk_law_pick) Y.m_law_pick Y.F_law_pick.kp Y.b_law_pick (jc_own 0 (jc_cons je_int jc_nil)))) (js_cons (js_if (jt_cmp (do_eq (huD hr)) (je_var 2) je_int) (js_one (js_ret (je_tup (ja_cons je_int ja_nil)))) js_nil) (js_cons (js_if (jt_cmp (do_eq (huD hr)) (je_var 1) je_int) (js_one (js_ret (je_tup (ja_cons je_int (ja_cons (je_slice je_str (jo_some (je_op do_mod (je_var 2) je_int)) (jo_some (je_op do_add (je_op do_add (je_op do_mod (je_var 2) je_int) je_int) (je_op do_fdiv (je_var 2) je_int)))) ja_nil))))) js_nil) (js_cons (js_if (jt_cmp (do_eq (huD hr)) (je_var 1) je_int) (js_one (js_ret (je_tup (ja_cons je_int (ja_cons (je_op do_add (je_op do_mul (je_op do_sub (je_var 2) je_int) (je_op do_pow je_int je_int)) (je_call G_law_pick (hr.mono hk_law_pick) Y.m_law_pick Y.F_law_pick.kp Y.b_law_pick (jc_own 0 (jc_cons je_int jc_nil)))) ja_nil))))) js_nil) (js_cons (js_if (jt_cmp (do_eq (huD hr)) (je_var 1) je_int) (js_one (js_ret (je_tup (ja_cons je_int (ja_cons (je_op do_sub (je_op do_add (je_op do_mul (je_var 2) je_int) (je_call G_law_pick (hr.mono hk_law_pick) Y.m_law_pick Y.F_law_pick.kp Y.b_law_pick (jc_own 0 (jc_cons je_int jc_nil)))) je_int) ja_nil))))) js_nil) (js_one (js_ret (je_tup (ja_cons je_int (ja_cons (je_op do_mod (je_var 2) je_int) ja_nil)))))))))), rp⟩
theorem ok_law_thing {dsp : DSp} {k : Nat} (Y : Fs K mg) (T : Bt mg) {k_law_pick : Nat} (hk_law_pick : k_law_pick ≤ k) (G_law_pick : FnOk P w K mg base CX0 k_law_pick Y.a_law_pick Y.d_law_pick ["_law_deal_here", "_law_many"] (spOf K sp_law_pick)) (len : ∀ as Q, dsp as Q → as.length = 2)
    (rp : ∀ (as : List SD) (Q : RS → List SD → Prop), dsp as Q → rd_law_thing { nx := fun δ => Q (.dt .none) (outs as δ), rt := fun d δ => Q d (outs as δ) } (startD 3 as)) :
    FnOk P w K mg base CX0 (k + 1) Y.a_law_thing Y.d_law_thing ["_law_deal_here", "_law_at"] (spOf K dsp) :=
  fn_ok Y.F_law_thing sc_law_thing len (by decide) fun cdv A outer s H E hr => ⟨_, rd_law_thing,
    (js_cons (js_set (i := 2) sc_law_thing.nd (je_call G_law_pick (hr.mono hk_law_pick) Y.m_law_pick Y.F_law_pick.kp Y.b_law_pick (jc_own 0 (jc_cons je_int jc_nil)))) (js_cons (js_if (jt_cmp (do_eq (huD hr)) (je_var 2) je_int) (js_one (js_ret je_non)) js_nil) (js_cons (js_if (jt_cmp (do_eq (huD hr)) (je_var 2) je_int) (js_one (js_ret je_bl)) js_nil) (js_cons (js_if (jt_cmp (do_eq (huD hr)) (je_var 2) je_int) (js_one (js_ret je_int)) js_nil) (js_cons (js_if (jt_cmp (do_eq (huD hr)) (je_var 2) je_int) (js_one (js_ret je_str)) js_nil) (js_cons (js_if (jt_cmp (do_eq (huD hr)) (je_var 2) je_int) (js_one (js_ret (je_new (jn_lst (ja_cons (je_var 1) (ja_cons je_str ja_nil)))))) js_nil) (js_cons (js_if (jt_cmp (do_lt (huD hr)) (je_var 2) je_int) (js_one (js_ret (je_tup (ja_cons (je_var 1) (ja_cons je_non (ja_cons (je_var 2) ja_nil)))))) js_nil) (js_one (js_ret (je_var 1)))))))))), rp⟩
theorem ok_law_scene {dsp : DSp} {k : Nat} (Y : Fs K mg) (T : Bt mg) {k_law_pick : Nat} (hk_law_pick : k_law_pick ≤ k) (G_law_pick : FnOk P w K mg base CX0 k_law_pick Y.a_law_pick Y.d_law_pick ["_law_deal_here", "_law_many"] (spOf K sp_law_pick)) {k_law_rank : Nat} (hk_law_rank : k_law_rank ≤ k) (G_law_rank : FnOk P w K mg base CX0 k_law_rank Y.a_law_rank Y.d_law_rank ["_law_deal_here", "_law_way"] (spOf K sp_law_rank)) {k_law_thing : Nat} (hk_law_thing : k_law_thing ≤ k) (G_law_thing : FnOk P w K mg base CX0 k_law_thing Y.a_law_thing Y.d_law_thing ["_law_deal_here", "_law_at"] (spOf K sp_law_thing)) (len : ∀ as Q, dsp as Q → as.length = 1)
    (rp : ∀ (as : List SD) (Q : RS → List SD → Prop), dsp as Q → rd_law_scene { nx := fun δ => Q (.dt .none) (outs as δ), rt := fun d δ => Q d (outs as δ) } (startD 11 as)) :
    FnOk P w K mg base CX0 (k + 1) Y.a_law_scene Y.d_law_scene ["_law_deal_here"] (spOf K dsp) :=
  fn_ok Y.F_law_scene sc_law_scene len (by decide) fun cdv A outer s H E hr => ⟨_, rd_law_scene,
    (js_cons (js_set (i := 1) sc_law_scene.nd (je_op do_add (je_op do_add je_int (je_op do_fdiv (je_call G_law_pick (hr.mono hk_law_pick) Y.m_law_pick Y.F_law_pick.kp Y.b_law_pick (jc_own 0 (jc_cons je_int jc_nil))) je_int)) (je_op do_fdiv (je_call G_law_pick (hr.mono hk_law_pick) Y.m_law_pick Y.F_law_pick.kp Y.b_law_pick (jc_own 0 (jc_cons je_int jc_nil))) je_int))) (js_cons (js_setLc (i := 5) rfl sc_law_scene.nd (ji_range1 rfl T.b_range (ja_cons (je_var 1) ja_nil)) (blkOk_by (N := ["_law_deal_here", "_law_wide", "_law_ways", "_law_many", "_law_ranks", "_law_k", "_law_form", "_law_half", "_law_rows", "_law_one_here", "_law_way"]) (sc := defScope s_law_scene) (by decide +kernel)) (fun _ _ _ _ _ => pg_name (i := 5) sc_law_scene.nd rfl (Or.inl rfl)) (fun _ _ _ _ _ => by exact (je_call G_law_pick (hr.mono hk_law_pick) Y.m_law_pick Y.F_law_pick.kp Y.b_law_pick (jc_own 0 (jc_cons je_int jc_nil)))) (n := 2)) (js_cons (js_set (i := 3) sc_law_scene.nd (je_call G_law_pick (hr.mono hk_law_pick) Y.m_law_pick Y.F_law_pick.kp Y.b_law_pick (jc_own 0 (jc_cons je_int jc_nil)))) (js_cons (js_if (jt_cmp (do_gt (huD hr)) (je_call G_law_pick (hr.mono hk_law_pick) Y.m_law_pick Y.F_law_pick.kp Y.b_law_pick (jc_own 0 (jc_cons je_int jc_nil))) je_int) (js_one (js_set (i := 3) sc_law_scene.nd (je_call G_law_pick (hr.mono hk_law_pick) Y.m_law_pick Y.F_law_pick.kp Y.b_law_pick (jc_own 0 (jc_cons je_int jc_nil))))) js_nil) (js_cons (js_if (jt_cmp (do_gt (huD hr)) (je_var 1) je_int) (js_one (js_set (i := 3) sc_law_scene.nd (je_callB (cd_min2 rfl) rfl T.b_min (by decide +kernel) (ja_cons (je_var 3) (ja_cons je_int ja_nil))))) js_nil) (js_cons (js_own (i := 4) sc_law_scene.nd (jn_lst ja_nil)) (js_cons (js_for rfl (ji_range1 rfl T.b_range (ja_cons (je_var 3) ja_nil)) (jg_name (i := 5) sc_law_scene.nd) (js_one (js_app 4 (je_callTy cd_tuple rfl T.b_tuple (by decide +kernel) (ja_cons (je_new (jn_lc (i := 10) rfl sc_law_scene.nd (ji_list (je_var 2)) (blkOk_by (N := ["_law_deal_here", "_law_wide", "_law_ways", "_law_many", "_law_ranks", "_law_k", "_law_form", "_law_half", "_law_rows", "_law_one_here", "_law_way"]) (sc := defScope s_law_scene) (by decide +kernel)) (fun _ _ _ _ _ => pg_name (i := 10) sc_law_scene.nd rfl (Or.inl rfl)) (fun _ _ _ _ _ => by exact (je_call G_law_rank (hr.mono hk_law_rank) Y.m_law_rank Y.F_law_rank.kp Y.b_law_rank (jc_own 0 (jc_cons (je_var 10) jc_nil)))))) ja_nil))))) (js_frz 4 (js_cons (js_set (i := 6) sc_law_scene.nd (je_call G_law_pick (hr.mono hk_law_pick) Y.m_law_pick Y.F_law_pick.kp Y.b_law_pick (jc_own 0 (jc_cons je_int jc_nil)))) (js_cons (js_if (jt_cmp (do_eq (huD hr)) (je_var 6) je_int) (js_one (js_set (i := 4) sc_law_scene.nd (je_new (jn_callB (cn_sorted (huD hr)) rfl T.b_sorted (by decide +kernel) (ja_cons (je_var 4) ja_nil))))) js_nil) (js_cons (js_if (jt_cmp (do_eq (huD hr)) (je_var 6) je_int) (js_one (js_set (i := 4) sc_law_scene.nd (je_new (jn_sortRev (huD hr) rfl T.b_sorted (ja_cons (je_var 4) ja_nil))))) js_nil) (js_cons (js_if (JW.jt (jw_and (jt_cmp (do_eq (huD hr)) (je_var 6) je_int) (jw_and1 (jt_cmp (do_gt (huD hr)) (je_var 3) je_int)))) (js_one (js_set (i := 4) sc_law_scene.nd (je_new (jn_lc (i := 9) rfl sc_law_scene.nd (ji_list (je_var 4)) (blkOk_by (N := ["_law_deal_here", "_law_wide", "_law_ways", "_law_many", "_law_ranks", "_law_k", "_law_form", "_law_half", "_law_rows", "_law_one_here", "_law_way"]) (sc := defScope s_law_scene) (by decide +kernel)) (fun _ _ _ _ _ => pg_name (i := 9) sc_law_scene.nd rfl (Or.inl rfl)) (fun _ _ _ _ _ => by exact (je_ix (je_var 4) je_int)))))) js_nil) (js_cons (js_if (jt_cmp (do_eq (huD hr)) (je_var 6) je_int) (js_cons (js_set (i := 7) sc_law_scene.nd (je_op do_fdiv (je_callB cd_len rfl T.b_len PySem.boot_len (ja_cons (je_var 4) ja_nil)) je_int)) (js_one (js_set (i := 4) sc_law_scene.nd (je_op do_add (je_new (jn_callB (cn_sorted (huD hr)) rfl T.b_sorted (by decide +kernel) (ja_cons (je_slice (je_var 4) (jo_some (je_var 7)) jo_none) ja_nil))) (je_new (jn_callB (cn_sorted (huD hr)) rfl T.b_sorted (by decide +kernel) (ja_cons (je_slice (je_var 4) jo_none (jo_some (je_var 7))) ja_nil))))))) js_nil) (js_cons (js_ownLc (i := 5) rfl sc_law_scene.nd (ji_range1 rfl T.b_range (ja_cons (je_var 3) ja_nil)) (blkOk_by (N := ["_law_deal_here", "_law_wide", "_law_ways", "_law_many", "_law_ranks", "_law_k", "_law_form", "_law_half", "_law_rows", "_law_one_here", "_law_way"]) (sc := defScope s_law_scene) (by decide +kernel)) (fun _ _ _ _ _ => pg_name (i := 5) sc_law_scene.nd rfl (Or.inl rfl)) (fun _ _ _ _ _ => by exact (je_call G_law_thing (hr.mono hk_law_thing) Y.m_law_thing Y.F_law_thing.kp Y.b_law_thing (jc_own 0 (jc_cons (je_var 5) jc_nil)))) (n := 8)) (js_cons (js_if (JW.jt (jw_and (jt_cmp (do_gt (huD hr)) (je_var 3) je_int) (jw_and1 (jt_cmp (do_gt (huD hr)) (je_var 6) je_int)))) (js_one (js_setO 8 (je_op do_sub (je_var 3) je_int) (je_ixO 8 je_int))) js_nil) (js_one (js_ret (je_tup (ja_cons (je_frz 8) (ja_cons (je_var 4) ja_nil)))))))))))))))))))), rp⟩
theorem ok_law_same {n : Nat} {dsp : DSp} {k : Nat} (Y : Fs K mg) (T : Bt mg) {k_law_same : Nat} (hk_law_same : k_law_same ≤ k) (G_law_same : FnOk P w K mg base CX0 k_law_same Y.a_law_same Y.d_law_same ["_law_one_here", "_law_other"] (spOf K (sp_law_same n))) (len : ∀ as Q, dsp as Q → as.length = 2)
    (rp : ∀ (as : List SD) (Q : RS → List SD → Prop), dsp as Q → (rd_law_same n) { nx := fun δ => Q (.dt .none) (outs as δ), rt := fun d δ => Q d (outs as δ) } (startD 3 as)) :
    FnOk P w K mg base CX0 (k + 1) Y.a_law_same Y.d_law_same ["_law_one_here", "_law_other"] (spOf K dsp) :=
  fn_ok Y.F_law_same sc_law_same len (by decide) fun cdv A outer s H E hr => ⟨_, (rd_law_same n),
    (js_cons (js_if (jt_val (je_isi2 tok_list tok_tuple rfl T.b_isinstance rfl T.b_list (by decide +kernel) rfl T.b_tuple (by decide +kernel) (je_var 0))) (js_cons (js_if (JW.jt (jw_or (jt_cmp (do_ne (huD hr)) (je_isi tok_list rfl T.b_isinstance rfl T.b_list (by decide +kernel) (je_var 0)) (je_isi tok_list rfl T.b_isinstance rfl T.b_list (by decide +kernel) (je_var 1))) (jw_or1 (jt_cmp (do_ne (huD hr)) (je_isi tok_tuple rfl T.b_isinstance rfl T.b_tuple (by decide +kernel) (je_var 0)) (je_isi tok_tuple rfl T.b_isinstance rfl T.b_tuple (by decide +kernel) (je_var 1)))))) (js_one (js_ret je_bl)) js_nil) (js_cons (js_if (jt_cmp (do_ne (huD hr)) (je_callB cd_len rfl T.b_len PySem.boot_len (ja_cons (je_var 0) ja_nil)) (je_callB cd_len rfl T.b_len PySem.boot_len (ja_cons (je_var 1) ja_nil))) (js_one (js_ret je_bl)) js_nil) (js_one (js_ret (je_callB (cd_all rfl) rfl T.b_all (by decide +kernel) (ja_cons (je_new (jn_lc (i := 2) rfl sc_law_same.nd (ji_range1 rfl T.b_range (ja_cons (je_callB cd_len rfl T.b_len PySem.boot_len (ja_cons (je_var 0) ja_nil)) ja_nil)) (blkOk_by (N := ["_law_one_here", "_law_other", "_law_k"]) (sc := defScope s_law_same) (by decide +kernel)) (fun _ _ _ _ _ => pg_name (i := 2) sc_law_same.nd rfl (Or.inl rfl)) (fun _ _ _ _ _ => by exact (je_call G_law_same (hr.mono hk_law_same) Y.m_law_same Y.F_law_same.kp Y.b_law_same (jc_cons (je_ix (je_var 0) (je_var 2)) (jc_cons (je_ix (je_var 1) (je_var 2)) jc_nil)))))) ja_nil)))))) js_nil) (js_cons (js_if (JW.jt (jw_or (jt_isN (je_var 0)) (jw_or1 (jt_isN (je_var 1))))) (js_one (js_ret (je_and (je_isN (je_var 0)) (je_one (je_isN (je_var 1)))))) js_nil) (js_cons (js_if (JW.jt (jw_or (jt_cmp (do_ne (huD hr)) (je_isi tok_bool rfl T.b_isinstance rfl T.b_bool (by decide +kernel) (je_var 0)) (je_isi tok_bool rfl T.b_isinstance rfl T.b_bool (by decide +kernel) (je_var 1))) (jw_or1 (jt_cmp (do_ne (huD hr)) (je_isi tok_int rfl T.b_isinstance rfl T.b_int (by decide +kernel) (je_var 0)) (je_isi tok_int rfl T.b_isinstance rfl T.b_int (by decide +kernel) (je_var 1)))))) (js_one (js_ret je_bl)) js_nil) (js_cons (js_if (JW.jt (jw_or (jt_cmp (do_ne (huD hr)) (je_isi tok_str rfl T.b_isinstance rfl T.b_str (by decide +kernel) (je_var 0)) (je_isi tok_str rfl T.b_isinstance rfl T.b_str (by decide +kernel) (je_var 1))) (jw_or1 (jt_val (je_isi2 tok_list tok_tuple rfl T.b_isinstance rfl T.b_list (by decide +kernel) rfl T.b_tuple (by decide +kernel) (je_var 1)))))) (js_one (js_ret je_bl)) js_nil) (js_one (js_ret (je_cmp (do_eq (huD hr)) (je_var 0) (je_var 1)))))))), rp⟩
theorem ok_law_sorted {dsp : DSp} {k : Nat} (Y : Fs K mg) (T : Bt mg)  (len : ∀ as Q, dsp as Q → as.length = 2)
    (rp : ∀ (as : List SD) (Q : RS → List SD → Prop), dsp as Q → rd_law_sorted { nx := fun δ => Q (.dt .none) (outs as δ), rt := fun d δ => Q d (outs as δ) } (startD 7 as)) :
    FnOk P w K mg base CX0 (k + 1) Y.a_law_sorted Y.d_law_sorted ["_law_rows", "_law_ranks"] (spOf K dsp) :=
  fn_ok Y.F_law_sorted sc_law_sorted len (by decide) fun cdv A outer s H E hr => ⟨_, rd_law_sorted,
    (js_cons (js_ownLc (i := 5) rfl sc_law_sorted.nd (ji_list (je_var 0)) (blkOk_by (N := ["_law_rows", "_law_ranks", "_law_out", "_law_k", "_law_at", "_law_row", "_law_one_here"]) (sc := defScope s_law_sorted) (by decide +kernel)) (fun _ _ _ _ _ => pg_name (i := 5) sc_law_sorted.nd rfl (Or.inl rfl)) (fun _ _ _ _ _ => by exact je_non) (n := 2)) (js_cons (js_for rfl (ji_range1 rfl T.b_range (ja_cons (je_callB cd_len rfl T.b_len PySem.boot_len (ja_cons (je_var 0) ja_nil)) ja_nil)) (jg_name (i := 3) sc_law_sorted.nd) (js_cons (js_set (i := 4) sc_law_sorted.nd (je_op do_add (je_callB cd_len rfl T.b_len PySem.boot_len (ja_cons (je_new (jn_lcIf (i := 6) rfl sc_law_sorted.nd (ji_list (je_var 1)) (blkOk_by (N := ["_law_rows", "_law_ranks", "_law_out", "_law_k", "_law_at", "_law_row", "_law_one_here"]) (sc := defScope s_law_sorted) (by decide +kernel)) (fun _ _ _ _ _ => pg_name (i := 6) sc_law_sorted.nd rfl (Or.inl rfl)) (fun _ _ _ _ _ => by exact (jt_cmp (do_lt (huD hr)) (je_var 6) (je_ix (je_var 1) (je_var 3)))) (fun _ _ _ _ _ => by exact (je_var 6)))) ja_nil)) (je_callB cd_len rfl T.b_len PySem.boot_len (ja_cons (je_new (jn_lcIf (i := 6) rfl sc_law_sorted.nd (ji_list (je_slice (je_var 1) jo_none (jo_some (je_var 3)))) (blkOk_by (N := ["_law_rows", "_law_ranks", "_law_out", "_law_k", "_law_at", "_law_row", "_law_one_here"]) (sc := defScope s_law_sorted) (by decide +kernel)) (fun _ _ _ _ _ => pg_name (i := 6) sc_law_sorted.nd rfl (Or.inl rfl)) (fun _ _ _ _ _ => by exact (jt_cmp (do_eq (huD hr)) (je_var 6) (je_ix (je_var 1) (je_var 3)))) (fun _ _ _ _ _ => by exact (je_var 6)))) ja_nil)))) (js_one (js_setO 2 (je_var 4) (je_ix (je_var 0) (je_var 3)))))) (js_one (js_ret (je_frz 2))))), rp⟩
theorem ok_law_compared {n : Nat} {dsp : DSp} {k : Nat} (Y : Fs K mg) (T : Bt mg) {k_law_compared : Nat} (hk_law_compared : k_law_compared ≤ k) (G_law_compared : FnOk P w K mg base CX0 k_law_compared Y.a_law_compared Y.d_law_compared ["_law_ranks"] (spOf K (sp_law_compared n))) (len : ∀ as Q, dsp as Q → as.length = 1)
    (rp : ∀ (as : List SD) (Q : RS → List SD → Prop), dsp as Q → (rd_law_compared n) { nx := fun δ => Q (.dt .none) (outs as δ), rt := fun d δ => Q d (outs as δ) } (startD 6 as)) :
    FnOk P w K mg base CX0 (k + 1) Y.a_law_compared Y.d_law_compared ["_law_ranks"] (spOf K dsp) :=
  fn_ok Y.F_law_compared sc_law_compared len (by decide) fun cdv A outer s H E hr => ⟨_, (rd_law_compared n),
    (js_cons (js_set (i := 1) sc_law_compared.nd (je_callB cd_len rfl T.b_len PySem.boot_len (ja_cons (je_var 0) ja_nil))) (js_cons (js_if (jt_cmp (do_lt (huD hr)) (je_var 1) je_int) (js_one (js_ret je_int)) js_nil) (js_cons (js_set (i := 2) sc_law_compared.nd (je_slice (je_var 0) jo_none (jo_some (je_op do_fdiv (je_var 1) je_int)))) (js_cons (js_set (i := 3) sc_law_compared.nd (je_slice (je_var 0) (jo_some (je_op do_fdiv (je_var 1) je_int)) jo_none)) (js_cons (js_if (jt_cmp (do_ge (huD hr)) (je_callB (cd_maxL rfl (huD hr)) rfl T.b_max (by decide +kernel) (ja_cons (je_var 3) ja_nil)) (je_callB (cd_maxL rfl (huD hr)) rfl T.b_max (by decide +kernel) (ja_cons (je_var 2) ja_nil))) (js_one (js_set (i := 4) sc_law_compared.nd (je_callB cd_len rfl T.b_len PySem.boot_len (ja_cons (je_new (jn_lcIf (i := 5) rfl sc_law_compared.nd (ji_list (je_var 3)) (blkOk_by (N := ["_law_ranks", "_law_many", "_law_first", "_law_others", "_law_left", "_law_one_here"]) (sc := defScope s_law_compared) (by decide +kernel)) (fun _ _ _ _ _ => pg_name (i := 5) sc_law_compared.nd rfl (Or.inl rfl)) (fun _ _ _ _ _ => by exact (jt_cmp (do_ge (huD hr)) (je_var 5) (je_callB (cd_maxL rfl (huD hr)) rfl T.b_max (by decide +kernel) (ja_cons (je_var 2) ja_nil)))) (fun _ _ _ _ _ => by exact (je_var 5)))) ja_nil)))) (js_one (js_set (i := 4) sc_law_compared.nd (je_callB cd_len rfl T.b_len PySem.boot_len (ja_cons (je_new (jn_lcIf (i := 5) rfl sc_law_compared.nd (ji_list (je_var 2)) (blkOk_by (N := ["_law_ranks", "_law_many", "_law_first", "_law_others", "_law_left", "_law_one_here"]) (sc := defScope s_law_compared) (by decide +kernel)) (fun _ _ _ _ _ => pg_name (i := 5) sc_law_compared.nd rfl (Or.inl rfl)) (fun _ _ _ _ _ => by exact (jt_cmp (do_gt (huD hr)) (je_var 5) (je_callB (cd_maxL rfl (huD hr)) rfl T.b_max (by decide +kernel) (ja_cons (je_var 3) ja_nil)))) (fun _ _ _ _ _ => by exact (je_var 5)))) ja_nil))))) (js_one (js_ret (je_op do_sub (je_op do_add (je_op do_add (je_call G_law_compared (hr.mono hk_law_compared) Y.m_law_compared Y.F_law_compared.kp Y.b_law_compared (jc_cons (je_var 2) jc_nil)) (je_call G_law_compared (hr.mono hk_law_compared) Y.m_law_compared Y.F_law_compared.kp Y.b_law_compared (jc_cons (je_var 3) jc_nil))) (je_var 1)) (je_var 4))))))))), rp⟩
theorem ok_law_least {n : Nat} {dsp : DSp} {k : Nat} (Y : Fs K mg) (T : Bt mg) {k_law_least : Nat} (hk_law_least : k_law_least ≤ k) (G_law_least : FnOk P w K mg base CX0 k_law_least Y.a_law_least Y.d_law_least ["_law_many"] (spOf K (sp_law_least n))) (len : ∀ as Q, dsp as Q → as.length = 1)
    (rp : ∀ (as : List SD) (Q : RS → List SD → Prop), dsp as Q → (rd_law_least n) { nx := fun δ => Q (.dt .none) (outs as δ), rt := fun d δ => Q d (outs as δ) } (startD 1 as)) :
    FnOk P w K mg base CX0 (k + 1) Y.a_law_least Y.d_law_least ["_law_many"] (spOf K dsp) :=
  fn_ok Y.F_law_least sc_law_least len (by decide) fun cdv A outer s H E hr => ⟨_, (rd_law_least n),
    (js_cons (js_if (jt_cmp (do_lt (huD hr)) (je_var 0) je_int) (js_one (js_ret je_int)) js_nil) (js_one (js_ret (je_op do_add (je_op do_add (je_op do_fdiv (je_var 0) je_int) (je_call G_law_least (hr.mono hk_law_least) Y.m_law_least Y.F_law_least.kp Y.b_law_least (jc_cons (je_op do_fdiv (je_var 0) je_int) jc_nil))) (je_call G_law_least (hr.mono hk_law_least) Y.m_law_least Y.F_law_least.kp Y.b_law_least (jc_cons (je_op do_sub (je_var 0) (je_op do_fdiv (je_var 0) je_int)) jc_nil)))))), rp⟩
theorem ok_law_lift {dsp : DSp} {k : Nat} (Y : Fs K mg) (T : Bt mg)  (len : ∀ as Q, dsp as Q → as.length = 1)
    (rp : ∀ (as : List SD) (Q : RS → List SD → Prop), dsp as Q → rd_law_lift { nx := fun δ => Q (.dt .none) (outs as δ), rt := fun d δ => Q d (outs as δ) } (startD 4 as)) :
    FnOk P w K mg base CX0 (k + 1) Y.a_law_lift Y.d_law_lift ["_law_many"] (spOf K dsp) :=
  fn_ok Y.F_law_lift sc_law_lift len (by decide) fun cdv A outer s H E hr => ⟨_, rd_law_lift,
    (js_cons (js_set (i := 1) sc_law_lift.nd je_int) (js_cons (js_set (i := 2) sc_law_lift.nd je_int) (js_cons (js_for rfl (ji_range1 rfl T.b_range (ja_cons (je_var 0) ja_nil)) (jg_name (i := 3) sc_law_lift.nd) (js_cons (js_if (jt_cmp (do_ge (huD hr)) (je_var 2) (je_var 0)) (js_one js_break) js_nil) (js_cons (js_set (i := 2) sc_law_lift.nd (je_op do_mul je_int (je_var 2))) (js_one (js_set (i := 1) sc_law_lift.nd (je_op do_add (je_var 1) je_int)))))) (js_one (js_ret (je_var 1)))))), rp⟩
theorem ok_law_good {n_law_same : Nat} {n_law_compared : Nat} {n_law_least : Nat} {dsp : DSp} {k : Nat} (Y : Fs K mg) (T : Bt mg) {k_law_sorted : Nat} (hk_law_sorted : k_law_sorted ≤ k) (G_law_sorted : FnOk P w K mg base CX0 k_law_sorted Y.a_law_sorted Y.d_law_sorted ["_law_rows", "_law_ranks"] (spOf K sp_law_sorted)) {k_law_same : Nat} (hk_law_same : k_law_same ≤ k) (G_law_same : FnOk P w K mg base CX0 k_law_same Y.a_law_same Y.d_law_same ["_law_one_here", "_law_other"] (spOf K (sp_law_same n_law_same))) {k_law_compared : Nat} (hk_law_compared : k_law_compared ≤ k) (G_law_compared : FnOk P w K mg base CX0 k_law_compared Y.a_law_compared Y.d_law_compared ["_law_ranks"] (spOf K (sp_law_compared n_law_compared))) {k_law_least : Nat} (hk_law_least : k_law_least ≤ k) (G_law_least : FnOk P w K mg base CX0 k_law_least Y.a_law_least Y.d_law_least ["_law_many"] (spOf K (sp_law_least n_law_least))) {k_law_lift : Nat} (hk_law_lift : k_law_lift ≤ k) (G_law_lift : FnOk P w K mg base CX0 k_law_lift Y.a_law_lift Y.d_law_lift ["_law_many"] (spOf K sp_law_lift)) (len : ∀ as Q, dsp as Q → as.length = 3)
    (rp : ∀ (as : List SD) (Q : RS → List SD → Prop), dsp as Q → (rd_law_good n_law_same n_law_compared n_law_least) { nx := fun δ => Q (.dt .none) (outs as δ), rt := fun d δ => Q d (outs as δ) } (startD 3 as)) :
    FnOk P w K mg base CX0 (k + 1) Y.a_law_good Y.d_law_good ["_law_told", "_law_rows", "_law_ranks"] (spOf K dsp) :=
  fn_ok Y.F_law_good sc_law_good len (by decide) fun cdv A outer s H E hr => ⟨_, (rd_law_good n_law_same n_law_compared n_law_least),
    (js_cons (js_if (JW.jt (jw_or (jt_not (jt_val (je_isi tok_tuple rfl T.b_isinstance rfl T.b_tuple (by decide +kernel) (je_var 0)))) (jw_or (jt_cmp (do_ne (huD hr)) (je_callB cd_len rfl T.b_len PySem.boot_len (ja_cons (je_var 0) ja_nil)) je_int) (jw_or1 (jt_not (jt_val (je_isi tok_list rfl T.b_isinstance rfl T.b_list (by decide +kernel) (je_ix (je_var 0) je_int)))))))) (js_one (js_ret je_bl)) js_nil) (js_cons (js_if (JW.jt (jw_or (jt_not (jt_val (je_isi tok_int rfl T.b_isinstance rfl T.b_int (by decide +kernel) (je_ix (je_var 0) je_int)))) (jw_or1 (jt_val (je_isi tok_bool rfl T.b_isinstance rfl T.b_bool (by decide +kernel) (je_ix (je_var 0) je_int)))))) (js_one (js_ret je_bl)) js_nil) (js_cons (js_if (JW.jt (jw_or (jt_not (jt_val (je_call G_law_same (hr.mono hk_law_same) Y.m_law_same Y.F_law_same.kp Y.b_law_same (jc_cons (je_ix (je_var 0) je_int) (jc_cons (je_call G_law_sorted (hr.mono hk_law_sorted) Y.m_law_sorted Y.F_law_sorted.kp Y.b_law_sorted (jc_cons (je_var 1) (jc_cons (je_var 2) jc_nil))) jc_nil))))) (jw_or1 (jt_cmp (do_ne (huD hr)) (je_ix (je_var 0) je_int) (je_call G_law_compared (hr.mono hk_law_compared) Y.m_law_compared Y.F_law_compared.kp Y.b_law_compared (jc_cons (je_var 2) jc_nil)))))) (js_one (js_ret je_bl)) js_nil) (js_one (js_ret (je_chain (do_le (huD hr)) (do_le (huD hr)) (je_call G_law_least (hr.mono hk_law_least) Y.m_law_least Y.F_law_least.kp Y.b_law_least (jc_cons (je_callB cd_len rfl T.b_len PySem.boot_len (ja_cons (je_var 1) ja_nil)) jc_nil)) (je_ix (je_var 0) je_int) (je_op do_mul (je_callB cd_len rfl T.b_len PySem.boot_len (ja_cons (je_var 1) ja_nil)) (je_call G_law_lift (hr.mono hk_law_lift) Y.m_law_lift Y.F_law_lift.kp Y.b_law_lift (jc_cons (je_callB cd_len rfl T.b_len PySem.boot_len (ja_cons (je_var 1) ja_nil)) jc_nil))))))))), rp⟩
theorem ok_law {dsp : DSp} {k : Nat} (Y : Fs K mg) (T : Bt mg) {k_law_deal : Nat} (hk_law_deal : k_law_deal ≤ k) (G_law_deal : FnOk P w K mg base CX0 k_law_deal Y.a_law_deal Y.d_law_deal ["_law_script"] (spOf K sp_law_deal)) {k_law_scene : Nat} (hk_law_scene : k_law_scene ≤ k) (G_law_scene : FnOk P w K mg base CX0 k_law_scene Y.a_law_scene Y.d_law_scene ["_law_deal_here"] (spOf K sp_law_scene)) {k_law_one : Nat} (hk_law_one : k_law_one ≤ k) (G_law_one : FnOk P w K mg base CX0 k_law_one Y.a_law_one Y.d_law_one ["_law_rows", "_law_ranks"] (spOf K sp_law_one)) (len : ∀ as Q, dsp as Q → as.length = 1)
    (rp : ∀ (as : List SD) (Q : RS → List SD → Prop), dsp as Q → rd_law { nx := fun δ => Q (.dt .none) (outs as δ), rt := fun d δ => Q d (outs as δ) } (startD 6 as)) :
    FnOk P w K mg base CX0 (k + 1) Y.a_law Y.d_law ["_law_script"] (spOf K dsp) :=
  fn_ok Y.F_law sc_law len (by decide) fun cdv A outer s H E hr => ⟨_, rd_law,
    (js_cons (js_own (i := 1) sc_law.nd (jn_call G_law_deal (hr.mono hk_law_deal) Y.m_law_deal Y.F_law_deal.kp Y.b_law_deal (jc_cons (je_var 0) jc_nil))) (js_cons (js_for rfl (ji_range1 rfl T.b_range (ja_cons je_int ja_nil)) (jg_name (i := 2) sc_law.nd) (js_cons (js_asg (je_call G_law_scene (hr.mono hk_law_scene) Y.m_law_scene Y.F_law_scene.kp Y.b_law_scene (jc_own 1 jc_nil)) (jg_tup rfl (jgs_cons (jg_name (i := 3) sc_law.nd) (jgs_cons (jg_name (i := 4) sc_law.nd) jgs_nil)))) (js_cons (js_if (jt_not (jt_val (je_call G_law_one (hr.mono hk_law_one) Y.m_law_one Y.F_law_one.kp Y.b_law_one (jc_cons (je_var 3) (jc_cons (je_var 4) jc_nil))))) (js_one (js_ret je_bl)) js_nil) (js_cons (js_if (JW.jt (jw_and (jt_cmp (do_gt (huD hr)) (je_callB cd_len rfl T.b_len PySem.boot_len (ja_cons (je_var 3) ja_nil)) je_int) (jw_and1 (jt_not (jt_val (je_call G_law_one (hr.mono hk_law_one) Y.m_law_one Y.F_law_one.kp Y.b_law_one (jc_cons (je_slice (je_var 3) jo_none (jo_some je_int)) (jc_cons (je_slice (je_var 4) jo_none (jo_some je_int)) jc_nil)))))))) (js_one (js_ret je_bl)) js_nil) (js_cons (js_if (jt_not (jt_val (je_call G_law_one (hr.mono hk_law_one) Y.m_law_one Y.F_law_one.kp Y.b_law_one (jc_cons (je_slice (je_var 3) (jo_some je_int) jo_none) (jc_cons (je_slice (je_var 4) (jo_some je_int) jo_none) jc_nil))))) (js_one (js_ret je_bl)) js_nil) (js_one (js_if (jt_not (jt_val (je_call G_law_one (hr.mono hk_law_one) Y.m_law_one Y.F_law_one.kp Y.b_law_one (jc_cons (je_op do_add (je_slice (je_var 3) jo_none (jo_some je_int)) (je_new (jn_lc (i := 5) rfl sc_law.nd (ji_list (je_slice (je_var 3) jo_none (jo_some je_int))) (blkOk_by (N := ["_law_script", "_law_deal_here", "_law_k", "_law_rows", "_law_ranks", "_law_one_here"]) (sc := defScope s_law) (by decide +kernel)) (fun _ _ _ _ _ => pg_name (i := 5) sc_law.nd rfl (Or.inl rfl)) (fun _ _ _ _ _ => by exact (je_ix (je_var 3) je_int))))) (jc_cons (je_op do_add (je_slice (je_var 4) jo_none (jo_some je_int)) (je_slice (je_var 4) jo_none (jo_some je_int))) jc_nil))))) (js_one (js_ret je_bl)) js_nil))))))) (js_one (js_ret (je_call G_law_one (hr.mono hk_law_one) Y.m_law_one Y.F_law_one.kp Y.b_law_one (jc_cons (je_new (jn_lst ja_nil)) (jc_cons (je_new (jn_lst ja_nil)) jc_nil))))))), rp⟩
end
theorem rp_law_pick (as : List SD) (Q : RS → List SD → Prop) (h : sp_law_pick as Q) : rd_law_pick { nx := fun δ => Q (.dt .none) (outs as δ), rt := fun d δ => Q d (outs as δ) } (startD 2 as) := by
  obtain ⟨p, ns, m, rfl, hm, q⟩ := h
  show rd_law_pick _ [deck p ns, .dt (.int m)]
  unfold rd_law_pick
  walk_at "w"
  refine ite_dec (fun h => ?_) (fun h => ?_)
  · walk_at "w"
    walk_at "o"
    exact q 0 ns (by omega) hm
  · obtain ⟨ns', z, rfl⟩ := snoc_of (l := ns) (by simpa using h)
    walk_at "w"
    refine st_popInts rfl ?_
    walk_at "w"
    refine st_mod hm ?_
    walk_at "o"
    exact q _ ns' (Int.emod_nonneg _ (by omega)) (Int.emod_lt_of_pos _ hm)
theorem rp_law_rank (as : List SD) (Q : RS → List SD → Prop) (h : sp_law_rank as Q) : rd_law_rank { nx := fun δ => Q (.dt .none) (outs as δ), rt := fun d δ => Q d (outs as δ) } (startD 3 as) := by
  obtain ⟨p, ns, way, rfl, q⟩ := h
  show rd_law_rank _ [deck p ns, .dt (.int way), .un]
  unfold rd_law_rank
  walk_at "w"
  refine call_ok (by simp [bors]) (by simp [bors]) fun Q2 hQ => ⟨p, ns, 11, rfl, by decide, fun r ns1 h0 h1 => hQ _ _ rfl ?_⟩
  walk_at "s"
  walk_at "w"
  refine ite_dec (fun h => ?_) (fun h => ?_)
  · walk_at "w"
    walk_at "o"
    exact q .nul ns1 trivial
  · walk_at "w"
    refine ite_dec (fun h2 => ?_) (fun h2 => ?_)
    · walk_at "w"
      refine st_slS (by decide) ?_
      walk_at "w"
      walk_at "o"
      exact q (.txt _) ns1 h2
    · walk_at "w"
      refine ite_dec (fun h3 => ?_) (fun h3 => ?_)
      · walk_at "w"
        refine st_mulL ⟨by omega, by omega⟩ ?_
        walk_at "w"
        refine call_ok (by simp [bors]) (by simp [bors]) fun Q2 hQ => ⟨p, ns1, 3, rfl, by decide, fun r2 ns2 h4 h5 => hQ _ _ rfl ?_⟩
        walk_at "s"
        walk_at "w"
        walk_at "o"
        exact q (.num _) ns2 h2
      · walk_at "w"
        refine ite_dec (fun h4 => ?_) (fun h4 => ?_)
        · walk_at "w"
          refine call_ok (by simp [bors]) (by simp [bors]) fun Q2 hQ => ⟨p, ns1, 40, rfl, by decide, fun r2 ns2 h4 h5 => hQ _ _ rfl ?_⟩
          walk_at "s"
          walk_at "w"
          walk_at "o"
          exact q (.num _) ns2 h2
        · walk_at "w"
          walk_at "o"
          exact q (.num _) ns1 h2
theorem rp_law_thing (as : List SD) (Q : RS → List SD → Prop) (h : sp_law_thing as Q) : rd_law_thing { nx := fun δ => Q (.dt .none) (outs as δ), rt := fun d δ => Q d (outs as δ) } (startD 3 as) := by
  obtain ⟨p, ns, k, rfl, q⟩ := h
  show rd_law_thing _ [deck p ns, .dt (.int k), .un]
  unfold rd_law_thing
  walk_at "w"
  refine call_ok (by simp [bors]) (by simp [bors]) fun Q2 hQ => ⟨p, ns, 12, rfl, by decide, fun r ns1 h0 h1 => hQ _ _ rfl ?_⟩
  walk_at "s"
  walk_at "w"
  refine ite_dec (fun h => ?_) (fun h => ?_)
  · walk_at "w"
    walk_at "o"
    exact q _ ns1 (by simp [RowOk, PyData.depth, smallD, PyData.plain])
  walk_at "w"
  refine ite_dec (fun h => ?_) (fun h => ?_)
  · walk_at "w"
    walk_at "o"
    exact q _ ns1 (by simp [RowOk, PyData.depth, smallD, PyData.plain])
  walk_at "w"
  refine ite_dec (fun h => ?_) (fun h => ?_)
  · walk_at "w"
    walk_at "o"
    exact q _ ns1 (by simp [RowOk, PyData.depth, smallD, PyData.plain])
  walk_at "w"
  refine ite_dec (fun h => ?_) (fun h => ?_)
  · walk_at "w"
    walk_at "o"
    exact q _ ns1 (by simp [RowOk, PyData.depth, smallD, PyData.plain])
  walk_at "w"
  refine ite_dec (fun h => ?_) (fun h => ?_)
  · walk_at "w"
    walk_at "o"
    exact q _ ns1 (by simp [RowOk, PyData.depth, PyData.depthAll, smallD, smallAll, PyData.plain, PyData.plainAll])
  walk_at "w"
  refine ite_dec (fun h => ?_) (fun h => ?_)
  · walk_at "w"
    walk_at "o"
    exact q _ ns1 (by simp [RowOk, PyData.depth, PyData.depthAll, smallD, smallAll, PyData.plain, PyData.plainAll])
  walk_at "w"
  walk_at "o"
  exact q _ ns1 (by simp [RowOk, PyData.depth, smallD, PyData.plain])
theorem rp_law_least (n : Nat) (as : List SD) (Q : RS → List SD → Prop) (h : sp_law_least (n + 1) as Q) : rd_law_least n { nx := fun δ => Q (.dt .none) (outs as δ), rt := fun d δ => Q d (outs as δ) } (startD 1 as) := by
  obtain ⟨m, rfl, hm, q⟩ := h
  show rd_law_least n _ [.dt (.int (m : Int))]
  unfold rd_law_least
  walk_at "w"
  refine ite_dec (fun h => ?_) (fun h => ?_)
  · walk_at "w"
    walk_at "o"
    have e : leastF (n + 1) m = 0 := by
      unfold leastF
      rw [if_pos h]
    rw [e] at q
    exact q
  · walk_at "w"
    refine call_ok (by simp [bors]) (by simp [bors]) fun Q2 hQ => ⟨m / 2, rfl, by omega, hQ _ _ rfl ?_⟩
    walk_at "s"
    walk_at "w"
    refine call_ok (by simp [bors]) (by simp [bors]) fun Q2 hQ => ⟨m - m / 2, ?_, by omega, hQ _ _ rfl ?_⟩
    · have e : ((m - m / 2 : Nat) : Int) = (m : Int) - (m : Int) / 2 := by omega
      unfold natD
      rw [e]
      rfl
    walk_at "s"
    walk_at "w"
    walk_at "o"
    have e : leastF (n + 1) m = (m : Int) / 2 + leastF n ((m / 2 : Nat) : Int) + leastF n ((m - m / 2 : Nat) : Int) := by
      have e1 : ((m - m / 2 : Nat) : Int) = (m : Int) - (m : Int) / 2 := by omega
      have e2 : ((m / 2 : Nat) : Int) = (m : Int) / 2 := by omega
      rw [e1, e2]
      show (if (m : Int) < 2 then _ else _) = _
      rw [if_neg h]
    rw [e] at q
    exact q
theorem rp_law_lift (as : List SD) (Q : RS → List SD → Prop) (h : sp_law_lift as Q) : rd_law_lift { nx := fun δ => Q (.dt .none) (outs as δ), rt := fun d δ => Q d (outs as δ) } (startD 4 as) := by
  obtain ⟨m, rfl, hm, q⟩ := h
  show rd_law_lift _ [.dt (.int (m : Int)), .un, .un, .un]
  unfold rd_law_lift
  walk_at "w"
  refine ⟨_, rfl, by omega, by omega, ?_⟩
  refine for_rng (fun i δ => ∃ (o s : Nat) (x : SD), δ = [.dt (.int (m : Int)), .dt (.int (o : Int)), .dt (.int (s : Int)), x] ∧ i ≤ m ∧ liftF (m - i) m o s = liftF m m 0 1) ⟨0, 1, .un, rfl, by omega, rfl⟩ ?_ ?_
  · rintro i δ N hi ⟨o, s, x, rfl, him, hI⟩ hN
    walk_at "w"
    refine ite_dec (fun h => ?_) (fun h => ?_)
    · walk_at "w"
      walk_at "o"
      have e : liftF (m - i) m o s = (o, s) := by
        have : m - i = (m - i - 1) + 1 := by omega
        rw [this]
        unfold liftF
        rw [if_pos (by omega)]
      have e2 : lift m = o := by
        unfold lift
        rw [← hI, e]
      rw [e2] at q
      exact q
    · walk_at "w"
      refine hN _ ⟨o + 1, 2 * s, .dt (.int _), rfl, by omega, ?_⟩
      rw [← hI]
      have : m - i = (m - (i + 1)) + 1 := by omega
      rw [this]
      conv => rhs; unfold liftF
      rw [if_neg (by omega)]
  · rintro δ ⟨o, s, x, rfl, _, hI⟩
    walk_at "w"
    walk_at "o"
    have e2 : lift m = o := by
      unfold lift
      have e3 : ((m : Int).toNat) = m := by omega
      rw [e3, Nat.sub_self] at hI
      rw [← hI]
      rfl
    rw [e2] at q
    exact q
theorem rp_law_deal (as : List SD) (Q : RS → List SD → Prop) (h : sp_law_deal as Q) : rd_law_deal { nx := fun δ => Q (.dt .none) (outs as δ), rt := fun d δ => Q d (outs as δ) } (startD 6 as) := by
  obtain ⟨ns, rfl, hl, q⟩ := h
  show rd_law_deal _ [.dt (.list (ns.map .int)), .un, .un, .un, .un, .un]
  unfold rd_law_deal
  walk_at "w"
  rename_i p
  refine for_inv (fun i δ => ∃ (seed : Int) (row : List Int) (c r k : SD), δ = [.dt (.list (ns.map .int)), .dt (.int seed), .ow p (.lst (row.map .int)), c, r, k] ∧ i ≤ ns.length ∧ row.length ≤ i * 60) ⟨_, [], .un, .un, .un, rfl, by omega, by simp⟩ ?_ ?_
  · rintro i x δ N hx ⟨seed, row, c, r, k, rfl, hi, hrow⟩ hN
    have hil := lt_of_get hx
    rw [List.length_map] at hil
    rw [List.getElem?_map, List.getElem?_eq_getElem hil] at hx
    cases hx
    walk_at "w"
    refine ite_dec (fun h => ?_) (fun h => ?_)
    all_goals
      walk_at "w"
      refine ite_dec (fun h2 => ?_) (fun h2 => ?_)
      · walk_at "w"
        refine ⟨_, rfl, by omega, by omega, ?_⟩
        refine for_rng (fun j δ => ∃ (row' : List Int) (z : Int) (k : SD), δ = [.dt (.list (ns.map .int)), .dt (.int seed), .ow p (.lst (row'.map .int)), .dt (.int ns[i]), .dt (.int z), k] ∧ row'.length ≤ row.length + j ∧ j ≤ 58) ⟨row, _, k, rfl, by omega, by omega⟩ ?_ ?_
        · rintro j δ N2 hj ⟨row', z, k', rfl, hr', hj58⟩ hN2
          walk_at "w"
          refine ite_dec (fun h3 => ?_) (fun h3 => ?_)
          · walk_at "w"
            exact hN _ ⟨seed, row', .dt (.int ns[i]), .dt (.int z), _, rfl, by omega, by omega⟩
          · walk_at "w"
            refine ⟨_, _, rfl, by rw [List.length_map]; omega, ?_⟩
            walk_at "w"
            refine hN2 _ ⟨row' ++ [z % 27720], z / 27720, _, by rw [List.map_append]; rfl, by rw [List.length_append]; simp; omega, by omega⟩
        · rintro δ ⟨row', z, k', rfl, hr', hj58⟩
          walk_at "w"
          exact hN _ ⟨seed, row', .dt (.int ns[i]), .dt (.int z), _, rfl, by omega, by simp at hr'; omega⟩
      · walk_at "w"
        refine ⟨_, _, rfl, by rw [List.length_map]; omega, ?_⟩
        walk_at "w"
        exact hN _ ⟨_, row ++ [_], .dt (.int ns[i]), _, k, by rw [List.map_append]; rfl, by omega, by rw [List.length_append]; simp; omega⟩
  · rintro δ ⟨seed, row, c, r, k, rfl, hi, hrow⟩
    rw [List.length_map] at hrow
    walk_at "w"
    refine ⟨_, rfl, by omega, by omega, ?_⟩
    refine for_rng (fun j δ => ∃ (seed : Int) (row' : List Int) (k : SD), δ = [.dt (.list (ns.map .int)), .dt (.int seed), .ow p (.lst (row'.map .int)), c, r, k] ∧ row'.length ≤ row.length + j ∧ j ≤ 260) ⟨seed, row, k, rfl, by omega, by omega⟩ ?_ ?_
    · rintro j δ N2 hj ⟨seed, row', k', rfl, hr', hj58⟩ hN2
      walk_at "w"
      refine ite_dec (fun h3 => ?_) (fun h3 => ?_)
      · walk_at "w"
        refine ⟨_, _, rfl, by rw [List.length_map]; omega, ?_⟩
        walk_at "w"
        exact hN2 _ ⟨_, row' ++ [_], _, by rw [List.map_append]; rfl, by rw [List.length_append]; simp; omega, by omega⟩
      · walk_at "w"
        exact hN2 _ ⟨seed, row', _, rfl, by omega, by omega⟩
    · rintro δ ⟨seed, row', k', rfl, hr', hj58⟩
      walk_at "w"
      walk_at "o"
      rw [← List.map_reverse]
      exact q _
theorem lt_ne {a b : D} (h : PySem.W.alike a b = true) (l : PySem.W.dataLt a b = true) : PyData.eqv a b = false := by
  cases e : PyData.eqv a b with
  | false => rfl
  | true =>
    have := (PySem.W.toks_eqv a b h).1 e
    unfold PySem.W.dataLt at l
    rw [this, PyProof.Rows.lex_irrefl] at l
    cases l
theorem lt_irr (a : D) : PySem.W.dataLt a a = false := PyProof.Rows.lex_irrefl _
theorem keyAt_get {ks : List D} {i : Nat} (h : i < ks.length) : ks[i]? = some (keyAt ks i) := by
  unfold keyAt
  rw [List.getD_eq_getElem?_getD, List.getElem?_eq_getElem h]
  rfl
theorem keyAt_mem {ks : List D} {i : Nat} (h : i < ks.length) : keyAt ks i ∈ ks := List.mem_of_getElem? (keyAt_get h)
theorem natAt {l : List Nat} {i : Nat} (h : i < l.length) : atI (l.map natD) (i : Int) = some (natD l[i]) := by
  rw [atI_cast, List.getElem?_map, List.getElem?_eq_getElem h]
  rfl
theorem keyI {ks : List D} {i : Nat} (h : i < ks.length) : atI ks (i : Int) = some (keyAt ks i) := by
  rw [atI_cast]
  exact keyAt_get h
theorem GoodKeys.ord {ks : List D} (g : GoodKeys ks) {a b : D} (ha : a ∈ ks) (hb : b ∈ ks) : PySem.W.alike a b = true ∧ isNoneD a = false ∧ min a.depth b.depth ≤ 150 := by
  obtain ⟨x, r, rfl⟩ := g.2.1 a ha
  refine ⟨g.1 _ ha _ hb, rfl, ?_⟩
  have := g.2.2.1 _ ha
  omega
theorem st_ord {g : D → D → Bool} {a b : D} {ks : List D} {Q : D → Prop} (gk : GoodKeys ks) (ha : a ∈ ks) (hb : b ∈ ks) (q : Q (.bool (g a b))) : ordD g a b Q := by
  obtain ⟨h1, h2, h3⟩ := gk.ord ha hb
  exact ⟨h1, h2, h3, q⟩
theorem st_eqK {a b : D} {ks : List D} {Q : D → Prop} (gk : GoodKeys ks) (ha : a ∈ ks) (hb : b ∈ ks) (q : Q (.bool (PyData.eqv a b))) : eqD a b Q := ⟨(gk.ord ha hb).2.2, q⟩
theorem two_filters {α : Type} (p r : α → Bool) : ∀ l : List α, (∀ x ∈ l, p x = true → r x = false) → (l.filter p).length + (l.filter r).length ≤ l.length
  | [], _ => by simp
  | x :: l, h => by
    have ih := two_filters p r l fun y hy => h y (List.mem_cons_of_mem _ hy)
    rw [List.filter_cons, List.filter_cons, List.length_cons]
    by_cases hp : p x = true
    · rw [if_pos hp, if_neg (by rw [h x List.mem_cons_self hp]; exact Bool.false_ne_true), List.length_cons]
      omega
    · rw [if_neg hp]
      by_cases hr : r x = true
      · rw [if_pos hr, List.length_cons]
        omega
      · rw [if_neg hr]
        omega
theorem lessAt_lt {ks : List D} (g : GoodKeys ks) {k : Nat} (hk : k < ks.length) : lessAt ks k < ks.length := by
  have e : ks = ks.take k ++ keyAt ks k :: ks.drop (k + 1) := by
    conv => lhs; rw [← List.take_append_drop k ks, List.drop_eq_getElem_cons hk]
    have := keyAt_get hk
    rw [List.getElem?_eq_getElem hk] at this
    rw [Option.some.inj this]
  have h1 := two_filters (fun d => PySem.W.dataLt d (keyAt ks k)) (fun d => PyData.eqv d (keyAt ks k)) (ks.take k) fun x hx hl => lt_ne (g.1 _ (List.mem_of_mem_take hx) _ (keyAt_mem hk)) hl
  have h2 : (ks.filter fun d => PySem.W.dataLt d (keyAt ks k)).length ≤ ((ks.take k).filter fun d => PySem.W.dataLt d (keyAt ks k)).length + (ks.length - (k + 1)) := by
    have key : ∀ kk : D, PySem.W.dataLt (keyAt ks k) kk = false → (ks.filter fun d => PySem.W.dataLt d kk).length ≤ ((ks.take k).filter fun d => PySem.W.dataLt d kk).length + (ks.length - (k + 1)) := by
      intro kk hkk
      have e2 : (ks.filter fun d => PySem.W.dataLt d kk) = ((ks.take k).filter fun d => PySem.W.dataLt d kk) ++ ((ks.drop (k + 1)).filter fun d => PySem.W.dataLt d kk) := by
        conv => lhs; rw [e]
        rw [List.filter_append, List.filter_cons, if_neg (by rw [hkk]; exact Bool.false_ne_true)]
      rw [e2, List.length_append]
      have := List.length_filter_le (fun d => PySem.W.dataLt d kk) (ks.drop (k + 1))
      rw [List.length_drop] at this
      omega
    exact key _ (lt_irr _)
  have h3 : (ks.take k).length = k := by
    rw [List.length_take]
    omega
  unfold lessAt
  omega
theorem foldl_set_len (f : Nat → Nat) (g : Nat → D) : ∀ (l : List Nat) (o : List D), (l.foldl (fun out k => out.set (f k) (g k)) o).length = o.length
  | [], o => rfl
  | x :: l, o => by
    rw [List.foldl_cons, foldl_set_len f g l, List.length_set]
theorem rp_law_sorted (as : List SD) (Q : RS → List SD → Prop) (h : sp_law_sorted as Q) : rd_law_sorted { nx := fun δ => Q (.dt .none) (outs as δ), rt := fun d δ => Q d (outs as δ) } (startD 7 as) := by
  obtain ⟨rs, ks, rfl, hl, h1000, gk, q⟩ := h
  show rd_law_sorted _ [.dt (.list rs), .dt (.list ks), .un, .un, .un, .un, .un]
  unfold rd_law_sorted
  walk_at "w"
  refine st_lc (own1 rfl rfl) ?_
  walk_at "w"
  refine ⟨own1 rfl rfl, lc_pure (fun _ => .none) .un rfl (by omega) (fun x hx N hN => hN) ?_⟩
  walk_at "w"
  rename_i p
  refine ⟨_, rfl, by omega, by omega, ?_⟩
  refine for_rng (fun i δ => ∃ (k a : SD), δ = [.dt (.list rs), .dt (.list ks), .ow p (.lst ((List.range i).foldl (fun out k => out.set (lessAt ks k) (rs.getD k .none)) (rs.map fun _ => .none))), k, a, .un, .un]) ⟨.un, .un, rfl⟩ ?_ ?_
  · rintro i δ N hi ⟨k, a, rfl⟩ hN
    have hik : i < ks.length := by omega
    walk_at "w"
    refine st_lc (own1 rfl rfl) ?_
    walk_at "w"
    refine ⟨own1 rfl rfl, lc_filter (fun d => PySem.W.dataLt d (keyAt ks i)) (fun d => d) .un rfl (by omega) (fun x hx N hN => ?_) (fun x hx _ N hN => ?_) ?_⟩
    · walk_at "w"
      refine st_ixL (d := keyAt ks i) (by rw [Int.zero_add, atI_cast, keyAt_get hik]) ?_
      refine st_ord gk hx (keyAt_mem hik) ?_
      walk_at "w"
      exact hN
    · walk_at "w"
      exact hN
    walk_at "w"
    refine st_lc (own1 rfl rfl) ?_
    walk_at "w"
    refine ⟨own1 rfl rfl, lc_filter (fun d => PyData.eqv d (keyAt ks i)) (fun d => d) .un rfl ?_ (fun x hx N hN => ?_) (fun x hx _ N hN => ?_) ?_⟩
    · rw [Int.zero_add, cut_take, List.length_take]
      omega
    · rw [Int.zero_add, cut_take] at hx
      walk_at "w"
      refine st_ixL (d := keyAt ks i) (by rw [Int.zero_add, atI_cast, keyAt_get hik]) ?_
      refine st_eqK gk (List.mem_of_mem_take hx) (keyAt_mem hik) ?_
      walk_at "w"
      exact hN
    · walk_at "w"
      exact hN
    rw [Int.zero_add, cut_take]
    walk_at "w"
    refine st_setO ?_
    walk_at "w"
    refine st_ixL (d := rs.getD i .none) ?_ ?_
    · rw [atI_cast]
      exact keyAt_get (ks := rs) (by omega)
    refine ⟨⟨p, _, rfl⟩, ?_⟩
    walk_at "w"
    refine ⟨p, _, _, lessAt ks i, rfl, rfl, ?_, ?_⟩
    · rw [foldl_set_len, List.length_map, hl, List.map_id', List.map_id']
      exact ixN_nat (lessAt_lt gk hik)
    · exact hN _ ⟨_, _, by rw [List.range_succ, List.foldl_append]; rfl⟩
  · rintro δ ⟨k, a, rfl⟩
    walk_at "w"
    walk_at "o"
    exact q
theorem depthAll_le {n : Nat} : ∀ {l : List D}, (∀ d ∈ l, d.depth ≤ n) → PyData.depthAll l ≤ n
  | [], _ => by simp [PyData.depthAll]
  | x :: l, h => by
    have h1 := h x List.mem_cons_self
    have h2 := depthAll_le (l := l) fun d hd => h d (List.mem_cons_of_mem _ hd)
    simp only [PyData.depthAll]
    omega
theorem maxD_mem (x : D) (xs : List D) : PySem.W.maxD x xs ∈ x :: xs := by
  unfold PySem.W.maxD
  have key : ∀ (l : List D) (a : D), l.foldl (fun a y => if PySem.W.dataLt a y then y else a) a ∈ a :: l := by
    intro l
    induction l with
    | nil => intro a; simp
    | cons y l ih =>
      intro a
      rw [List.foldl_cons]
      have h := ih (if PySem.W.dataLt a y then y else a)
      rcases List.mem_cons.mp h with h | h
      · rw [h]
        split
        · simp
        · simp
      · exact List.mem_cons_of_mem _ (List.mem_cons_of_mem _ h)
  exact key xs x
def bigK (l : List D) : D := PySem.W.maxD (l.headD .none) l.tail
theorem bigK_mem {l : List D} (h : l ≠ []) : bigK l ∈ l := by
  cases l with
  | nil => exact absurd rfl h
  | cons x xs => exact maxD_mem x xs
theorem GoodKeys.sub {ks l : List D} (g : GoodKeys ks) (h : ∀ d ∈ l, d ∈ ks) : GoodKeys l := ⟨fun a ha b hb => g.1 a (h a ha) b (h b hb), fun d hd => g.2.1 d (h d hd), fun d hd => g.2.2.1 d (h d hd), fun d hd => g.2.2.2.1 d (h d hd), fun d hd => g.2.2.2.2 d (h d hd)⟩
theorem st_maxK {l ks : List D} {Q : D → Prop} (gk : GoodKeys ks) (hs : ∀ d ∈ l, d ∈ ks) (hne : l ≠ []) (q : Q (bigK l)) : maxLD PySem.W.maxD [.list l] Q := by
  cases l with
  | nil => exact absurd rfl hne
  | cons x xs => exact ⟨x, xs, rfl, ⟨fun a ha b hb => gk.1 a (hs a ha) b (hs b hb), fun a ha z => by
      obtain ⟨y, r, e⟩ := gk.2.1 a (hs a ha)
      rw [e] at z
      cases z⟩, Nat.le_trans (depthAll_le (n := 10) fun d hd => gk.2.2.1 d (hs d hd)) (by decide), q⟩
theorem rp_law_compared (n : Nat) (as : List SD) (Q : RS → List SD → Prop) (h : sp_law_compared (n + 1) as Q) : rd_law_compared n { nx := fun δ => Q (.dt .none) (outs as δ), rt := fun d δ => Q d (outs as δ) } (startD 6 as) := by
  obtain ⟨ks, rfl, h1000, hn, gk, q⟩ := h
  show rd_law_compared n _ [.dt (.list ks), .un, .un, .un, .un, .un]
  unfold rd_law_compared
  walk_at "w"
  refine ite_dec (fun h => ?_) (fun h => ?_)
  · walk_at "w"
    walk_at "o"
    have e : cmpF (n + 1) ks = 0 := by
      show (if _ then _ else _) = _
      rw [if_pos (by omega)]
    rw [e] at q
    exact q
  have e1 : (ks.length : Int) / 2 = ((ks.length / 2 : Nat) : Int) := by omega
  have hfs : ∀ d ∈ ks.take (ks.length / 2), d ∈ ks := fun d hd => List.mem_of_mem_take hd
  have hos : ∀ d ∈ ks.drop (ks.length / 2), d ∈ ks := fun d hd => List.mem_of_mem_drop hd
  have lf : (ks.take (ks.length / 2)).length = ks.length / 2 := by rw [List.length_take]; omega
  have lo : (ks.drop (ks.length / 2)).length = ks.length - ks.length / 2 := by rw [List.length_drop]
  have nf : ks.take (ks.length / 2) ≠ [] := fun z => by rw [z] at lf; simp at lf; omega
  have no : ks.drop (ks.length / 2) ≠ [] := fun z => by rw [z] at lo; simp at lo; omega
  have hmf := hfs _ (bigK_mem nf)
  have hmo := hos _ (bigK_mem no)
  have ec : ∀ left : Nat, left = (if PySem.W.dataLt (bigK (ks.drop (ks.length / 2))) (bigK (ks.take (ks.length / 2))) = true then ((ks.take (ks.length / 2)).filter fun d => PySem.W.dataLt (bigK (ks.drop (ks.length / 2))) d).length else ((ks.drop (ks.length / 2)).filter fun d => !PySem.W.dataLt d (bigK (ks.take (ks.length / 2)))).length) →
      cmpF (n + 1) ks = cmpF n (ks.take (ks.length / 2)) + cmpF n (ks.drop (ks.length / 2)) + (ks.length : Int) - (left : Int) := by
    intro left hleft
    rw [hleft]
    show (if _ then _ else _) = _
    rw [if_neg (by omega)]
    rfl
  walk_at "w"
  rw [e1, cut_take, cut_drop]
  refine st_maxK gk hos no ?_
  walk_at "w"
  refine st_maxK gk hfs nf ?_
  refine st_ord gk hmo hmf ?_
  walk_at "w"
  refine ite_b (fun h2 => ?_) (fun h2 => ?_)
  · walk_at "w"
    refine st_lc (own1 rfl rfl) ?_
    walk_at "w"
    refine ⟨own1 rfl rfl, lc_filter (fun d => !PySem.W.dataLt d (bigK (ks.take (ks.length / 2)))) (fun d => d) .un rfl (by omega) (fun x hx N hN => ?_) (fun x hx _ N hN => ?_) ?_⟩
    · walk_at "w"
      refine st_maxK gk hfs nf ?_
      refine st_ord gk (hos _ hx) hmf ?_
      walk_at "w"
      exact hN
    · walk_at "w"
      exact hN
    walk_at "w"
    refine call_ok (by simp [bors]) (by simp [bors]) fun Q2 hQ => ⟨_, rfl, by omega, by omega, gk.sub hfs, hQ _ _ rfl ?_⟩
    walk_at "s"
    walk_at "w"
    refine call_ok (by simp [bors]) (by simp [bors]) fun Q2 hQ => ⟨_, rfl, by omega, by omega, gk.sub hos, hQ _ _ rfl ?_⟩
    walk_at "s"
    walk_at "w"
    walk_at "o"
    rw [ec _ (by rw [if_neg (by intro z; rw [z] at h2; cases h2)])] at q
    rw [List.map_id']
    exact q
  · walk_at "w"
    refine st_lc (own1 rfl rfl) ?_
    walk_at "w"
    refine ⟨own1 rfl rfl, lc_filter (fun d => PySem.W.dataLt (bigK (ks.drop (ks.length / 2))) d) (fun d => d) .un rfl (by omega) (fun x hx N hN => ?_) (fun x hx _ N hN => ?_) ?_⟩
    · walk_at "w"
      refine st_maxK gk hos no ?_
      refine st_ord gk (hfs _ hx) hmo ?_
      walk_at "w"
      exact hN
    · walk_at "w"
      exact hN
    walk_at "w"
    refine call_ok (by simp [bors]) (by simp [bors]) fun Q2 hQ => ⟨_, rfl, by omega, by omega, gk.sub hfs, hQ _ _ rfl ?_⟩
    walk_at "s"
    walk_at "w"
    refine call_ok (by simp [bors]) (by simp [bors]) fun Q2 hQ => ⟨_, rfl, by omega, by omega, gk.sub hos, hQ _ _ rfl ?_⟩
    walk_at "s"
    walk_at "w"
    walk_at "o"
    rw [ec _ (by rw [if_pos (by cases h3 : PySem.W.dataLt (bigK (ks.drop (ks.length / 2))) (bigK (ks.take (ks.length / 2))) with | true => rfl | false => rw [h3] at h2; cases h2)])] at q
    rw [List.map_id']
    exact q
def isLst : D → Bool
  | .list _ => true
  | _ => false
def isTup : D → Bool
  | .tuple _ => true
  | _ => false
def isBoo : D → Bool
  | .bool _ => true
  | _ => false
def isInt : D → Bool
  | .int _ => true
  | .bool _ => true
  | _ => false
def isStr : D → Bool
  | .str _ => true
  | _ => false
theorem isT_l (d : D) : isT "list" d = isLst d := by cases d <;> rfl
theorem isT_t (d : D) : isT "tuple" d = isTup d := by cases d <;> rfl
theorem isT_b (d : D) : isT "bool" d = isBoo d := by cases d <;> rfl
theorem isT_i (d : D) : isT "int" d = isInt d := by cases d <;> rfl
theorem isT_s (d : D) : isT "str" d = isStr d := by cases d <;> rfl
theorem small_at {xs : List D} {i : Nat} (h : smallAll xs = true) (hi : i < xs.length) : smallD xs[i] = true := by
  induction xs generalizing i with
  | nil => simp at hi
  | cons x xs ih =>
    simp only [smallAll, Bool.and_eq_true] at h
    cases i with
    | zero => exact h.1
    | succ i => exact ih h.2 (by simpa using hi)
theorem plain_at {xs : List D} {i : Nat} (h : PyData.plainAll xs = true) (hi : i < xs.length) : xs[i].plain = true := plain_of h (List.getElem_mem hi)
theorem depth_at {xs : List D} {i : Nat} (hi : i < xs.length) : xs[i].depth ≤ PyData.depthAll xs := by
  induction xs generalizing i with
  | nil => simp at hi
  | cons x xs ih =>
    simp only [PyData.depthAll]
    cases i with
    | zero => exact Nat.le_max_left _ _
    | succ i => exact Nat.le_trans (ih (by simpa using hi)) (Nat.le_max_right _ _)
theorem rp_law_same (n : Nat) (as : List SD) (Q : RS → List SD → Prop) (h : sp_law_same (n + 1) as Q) : rd_law_same n { nx := fun δ => Q (.dt .none) (outs as δ), rt := fun d δ => Q d (outs as δ) } (startD 3 as) := by
  obtain ⟨d, rfl, hp, hd, hs, q⟩ := h
  show rd_law_same n _ [.dt d, .dt d, .un]
  unfold rd_law_same
  walk_at "w"
  simp only [isT_l, isT_t, isT_b, isT_i, isT_s]
  have leaf : ∀ c : Bool, c = true → Q (.dt (.bool c)) [.un, .un] := fun c hc => by rw [hc]; exact q
  cases d with
  | none =>
    refine ite_F ?_
    walk_at "w"
    refine ite_T ?_
    walk_at "w"
    refine ite_T ?_
    walk_at "w"
    refine ite_T ?_
    walk_at "w"
    walk_at "o"
    exact q
  | bool b =>
    repeat (walk_at "w"; refine ite_F ?_)
    walk_at "w"
    walk_at "o"
    exact leaf _ (by simp)
  | int b =>
    repeat (walk_at "w"; refine ite_F ?_)
    walk_at "w"
    walk_at "o"
    exact leaf _ (by simp)
  | str b =>
    repeat (walk_at "w"; refine ite_F ?_)
    walk_at "w"
    walk_at "o"
    exact leaf _ (by simp)
  | list xs =>
    refine ite_T ?_
    repeat (walk_at "w"; refine ite_F ?_)
    walk_at "w"
    refine ite_b (fun h => ?_) (fun h => ?_)
    · simp at h
    walk_at "w"
    refine st_lc (own1 rfl rfl) ?_
    walk_at "w"
    simp only [smallD, Bool.and_eq_true, decide_eq_true_eq] at hs
    simp only [PyData.plain] at hp
    simp only [PyData.depth] at hd
    refine ⟨_, rfl, by omega, by omega, ?_⟩
    refine ⟨own1 rfl rfl, lc_pure (fun _ => .bool true) .un rfl (by rw [rngD_len]; omega) (fun x hx N hN => ?_) ?_⟩
    · obtain ⟨i, hi⟩ := List.mem_iff_getElem?.mp hx
      obtain ⟨hi, rfl⟩ := rngD_get hi
      have hi' : i < xs.length := by omega
      have ea : atI xs (0 + (i : Int)) = some xs[i] := by rw [Int.zero_add, atI_cast, List.getElem?_eq_getElem hi']
      have dd := depth_at hi'
      walk_at "w"
      refine st_ixL ea ?_
      walk_at "w"
      refine st_ixL ea ?_
      walk_at "w"
      refine call_ok (by simp [bors]) (by simp [bors]) fun Q2 hQ => ⟨_, rfl, plain_at hp hi', by omega, small_at hs.2 hi', hQ _ _ rfl ?_⟩
      walk_at "s"
      exact hN
    walk_at "w"
    refine boolsD_ok ((rngD 0 ((xs.length : Int)).toNat).map fun _ => true) ?_ ?_
    · rw [List.map_map]
      rfl
    walk_at "o"
    exact leaf _ (by simp)
  | tuple xs =>
    refine ite_T ?_
    repeat (walk_at "w"; refine ite_F ?_)
    walk_at "w"
    refine ite_b (fun h => ?_) (fun h => ?_)
    · simp at h
    walk_at "w"
    refine st_lc (own1 rfl rfl) ?_
    walk_at "w"
    simp only [smallD, Bool.and_eq_true, decide_eq_true_eq] at hs
    simp only [PyData.plain] at hp
    simp only [PyData.depth] at hd
    refine ⟨_, rfl, by omega, by omega, ?_⟩
    refine ⟨own1 rfl rfl, lc_pure (fun _ => .bool true) .un rfl (by rw [rngD_len]; omega) (fun x hx N hN => ?_) ?_⟩
    · obtain ⟨i, hi⟩ := List.mem_iff_getElem?.mp hx
      obtain ⟨hi, rfl⟩ := rngD_get hi
      have hi' : i < xs.length := by omega
      have ea : atI xs (0 + (i : Int)) = some xs[i] := by rw [Int.zero_add, atI_cast, List.getElem?_eq_getElem hi']
      have dd := depth_at hi'
      walk_at "w"
      refine st_ixT ea ?_
      walk_at "w"
      refine st_ixT ea ?_
      walk_at "w"
      refine call_ok (by simp [bors]) (by simp [bors]) fun Q2 hQ => ⟨_, rfl, plain_at hp hi', by omega, small_at hs.2 hi', hQ _ _ rfl ?_⟩
      walk_at "s"
      exact hN
    walk_at "w"
    refine boolsD_ok ((rngD 0 ((xs.length : Int)).toNat).map fun _ => true) ?_ ?_
    · rw [List.map_map]
      rfl
    walk_at "o"
    exact leaf _ (by simp)
  | dict xs => simp [PyData.plain] at hp
theorem mrg_nil (lt : Nat → Nat → Bool) (bs : List Nat) : mrg lt [] bs = (bs, 0) := by rw [mrg]
theorem mrg_end (lt : Nat → Nat → Bool) (as : List Nat) : mrg lt as [] = (as, 0) := by
  cases as with
  | nil => rw [mrg]
  | cons a as => rw [mrg]
theorem mrg_cons (lt : Nat → Nat → Bool) (a : Nat) (as : List Nat) (b : Nat) (bs : List Nat) : mrg lt (a :: as) (b :: bs) = if lt b a = true then (b :: (mrg lt (a :: as) bs).1, (mrg lt (a :: as) bs).2 + 1) else (a :: (mrg lt as (b :: bs)).1, (mrg lt as (b :: bs)).2 + 1) := by
  rw [mrg]
theorem mrg_perm (lt : Nat → Nat → Bool) : ∀ (n : Nat) (as bs : List Nat), as.length + bs.length ≤ n → ((mrg lt as bs).1).Perm (as ++ bs)
  | n, [], bs, _ => by rw [mrg_nil]; exact List.Perm.refl _
  | n, a :: as, [], _ => by rw [mrg_end, List.append_nil]
  | 0, a :: as, b :: bs, h => by simp at h
  | n + 1, a :: as, b :: bs, h => by
    rw [mrg_cons]
    simp only [List.length_cons] at h
    split
    · refine (List.Perm.cons b (mrg_perm lt n (a :: as) bs (by simp; omega))).trans ?_
      exact (List.perm_middle (a := b) (l₁ := a :: as) (l₂ := bs)).symm
    · exact List.Perm.cons a (mrg_perm lt n as (b :: bs) (by simp; omega))
theorem srt_perm (lt : Nat → Nat → Bool) : ∀ (n : Nat) (ps : List Nat), ((srt lt n ps).1).Perm ps
  | 0, ps => List.Perm.refl _
  | n + 1, ps => by
    unfold srt
    split
    · exact List.Perm.refl _
    · refine (mrg_perm lt _ _ _ (Nat.le_refl _)).trans ?_
      refine ((srt_perm lt n _).append (srt_perm lt n _)).trans ?_
      rw [List.take_append_drop]
theorem rp_halves_merged (as : List SD) (Q : RS → List SD → Prop) (h : sp_halves_merged as Q) : rd_halves_merged { nx := fun δ => Q (.dt .none) (outs as δ), rt := fun d δ => Q d (outs as δ) } (startD 7 as) := by
  obtain ⟨ks, fs, os, rfl, gk, hf, ho, hl, q⟩ := h
  show rd_halves_merged _ [.dt (.list ks), .dt (.list (fs.map natD)), .dt (.list (os.map natD)), .un, .un, .un, .un]
  unfold rd_halves_merged
  walk_at "w"
  rename_i p
  refine while_inv (fun m δ => ∃ (i j c : Nat) (o : List Nat), δ = [.dt (.list ks), .dt (.list (fs.map natD)), .dt (.list (os.map natD)), .ow p (.lst (o.map natD)), .dt (.int (c : Int)), .dt (.int (i : Int)), .dt (.int (j : Int))] ∧ i ≤ fs.length ∧ j ≤ os.length ∧ m = (fs.length - i) + (os.length - j) ∧ o ++ (mrg (ltK ks) (fs.drop i) (os.drop j)).1 = (mrg (ltK ks) fs os).1 ∧ c + (mrg (ltK ks) (fs.drop i) (os.drop j)).2 = (mrg (ltK ks) fs os).2 ∧ o.length = i + j) (fs.length + os.length) ⟨0, 0, 0, [], rfl, by omega, by omega, by omega, by simp, by simp, by simp⟩ ?_
  rintro m δ ⟨i, j, c, o, rfl, hi, hj, rfl, h1, h2, h3⟩
  have fin : (fs.drop i = [] ∨ os.drop j = []) → (o.map natD ++ (fs.map natD).drop i) ++ (os.map natD).drop j = (mrg (ltK ks) fs os).1.map natD ∧ c = (mrg (ltK ks) fs os).2 := by
    intro he
    rw [← h1, ← h2, ← List.map_drop, ← List.map_drop]
    rcases he with he | he
    · rw [he, mrg_nil]
      simp
    · rw [he, mrg_end]
      simp
  have out : ∀ δ', δ' = [.dt (.list ks), .dt (.list (fs.map natD)), .dt (.list (os.map natD)), .ow p (.lst (o.map natD)), .dt (.int (c : Int)), .dt (.int (i : Int)), .dt (.int (j : Int))] → (fs.drop i = [] ∨ os.drop j = []) →
      (sRet (dTup (dCons (dOp addD (dOp addD (dFrz 3) (dSl (dVar 1) (dPart (dVar 5)) dNoPart)) (dSl (dVar 2) (dPart (dVar 6)) dNoPart)) (dCons (dVar 4) dNil)))) { nx := fun δ => Q (.dt .none) (outs [.dt (.list ks), .dt (.list (fs.map natD)), .dt (.list (os.map natD))] δ), rt := fun d δ => Q d (outs [.dt (.list ks), .dt (.list (fs.map natD)), .dt (.list (os.map natD))] δ) } δ' := by
    rintro δ' rfl he
    obtain ⟨f1, f2⟩ := fin he
    walk_at "w"
    rw [cut_drop]
    refine st_addL (by rw [List.length_map, List.length_drop, List.length_map]; omega) ?_
    walk_at "w"
    rw [cut_drop]
    refine st_addL (by rw [List.length_append, List.length_map, List.length_drop, List.length_map, List.length_drop, List.length_map]; omega) ?_
    walk_at "w"
    rw [f1, f2]
    walk_at "w"
    walk_at "o"
    exact q
  walk_at "w"
  refine ite_dec (fun ha => ?_) (fun ha => ?_)
  · rw [List.length_map] at ha
    have ha' : i < fs.length := by omega
    walk_at "w"
    refine ite_dec (fun hb => ?_) (fun hb => ?_)
    · rw [List.length_map] at hb
      have hb' : j < os.length := by omega
      have ef : fs.drop i = fs[i] :: fs.drop (i + 1) := List.drop_eq_getElem_cons ha'
      have eo : os.drop j = os[j] :: os.drop (j + 1) := List.drop_eq_getElem_cons hb'
      have kf := hf fs[i] (List.getElem_mem ha')
      have ko := ho os[j] (List.getElem_mem hb')
      rw [ef, eo, mrg_cons] at h1 h2
      walk_at "w"
      refine st_ixL (natAt hb') ?_
      refine st_ixL (keyI ko) ?_
      walk_at "w"
      refine st_ixL (natAt ha') ?_
      refine st_ixL (keyI kf) ?_
      refine st_ord gk (keyAt_mem ko) (keyAt_mem kf) ?_
      walk_at "w"
      refine ite_b (fun hlt => ?_) (fun hlt => ?_)
      · have hlt' : ltK ks os[j] fs[i] = true := hlt
        rw [if_pos hlt'] at h1 h2
        walk_at "w"
        refine st_ixL (natAt hb') ?_
        refine ⟨p, _, rfl, by rw [List.length_map]; omega, ?_⟩
        walk_at "w"
        refine ⟨(fs.length - i) + (os.length - (j + 1)), by omega, i, j + 1, c + 1, o ++ [os[j]], by rw [List.map_append]; rfl, hi, by omega, rfl, ?_, ?_, ?_⟩
        · rw [ef, List.append_assoc]
          exact h1
        · rw [ef]
          omega
        · rw [List.length_append]
          simp
          omega
      · have hlt' : ¬ ltK ks os[j] fs[i] = true := fun z => by
          have z' : PySem.W.dataLt (keyAt ks os[j]) (keyAt ks fs[i]) = true := z
          rw [z'] at hlt
          cases hlt
        rw [if_neg hlt'] at h1 h2
        walk_at "w"
        refine st_ixL (natAt ha') ?_
        refine ⟨p, _, rfl, by rw [List.length_map]; omega, ?_⟩
        walk_at "w"
        refine ⟨(fs.length - (i + 1)) + (os.length - j), by omega, i + 1, j, c + 1, o ++ [fs[i]], by rw [List.map_append]; rfl, by omega, hj, rfl, ?_, ?_, ?_⟩
        · rw [eo, List.append_assoc]
          exact h1
        · rw [eo]
          omega
        · rw [List.length_append]
          simp
          omega
    · exact out _ rfl (.inr (List.drop_eq_nil_of_le (by rw [List.length_map] at hb; omega)))
  · exact out _ rfl (.inl (List.drop_eq_nil_of_le (by rw [List.length_map] at ha; omega)))
theorem rp_halves_sorted (n : Nat) (as : List SD) (Q : RS → List SD → Prop) (h : sp_halves_sorted (n + 1) as Q) : rd_halves_sorted n { nx := fun δ => Q (.dt .none) (outs as δ), rt := fun d δ => Q d (outs as δ) } (startD 9 as) := by
  obtain ⟨ks, ps, rfl, gk, hp, h1000, hn, q⟩ := h
  show rd_halves_sorted n _ [.dt (.list ks), .dt (.list (ps.map natD)), .un, .un, .un, .un, .un, .un, .un]
  unfold rd_halves_sorted
  walk_at "w"
  rw [List.length_map]
  refine ite_dec (fun h => ?_) (fun h => ?_)
  · walk_at "w"
    walk_at "o"
    have e : srt (ltK ks) (n + 1) ps = (ps, 0) := by
      unfold srt
      rw [if_pos (by omega)]
    rw [e] at q
    exact q
  have e1 : ((ps.map natD).length : Int) / 2 = ((ps.length / 2 : Nat) : Int) := by rw [List.length_map]; omega
  walk_at "w"
  rw [e1, cut_take, ← List.map_take]
  refine call_ok (by simp [bors]) (by simp [bors]) fun Q2 hQ => ⟨ks, ps.take (ps.length / 2), rfl, gk, fun i hi => hp i (List.mem_of_mem_take hi), by rw [List.length_take]; omega, by rw [List.length_take]; omega, hQ _ _ rfl ?_⟩
  walk_at "s"
  walk_at "w"
  rw [cut_drop, ← List.map_drop]
  refine call_ok (by simp [bors]) (by simp [bors]) fun Q2 hQ => ⟨ks, ps.drop (ps.length / 2), rfl, gk, fun i hi => hp i (List.mem_of_mem_drop hi), by rw [List.length_drop]; omega, by rw [List.length_drop]; omega, hQ _ _ rfl ?_⟩
  walk_at "s"
  walk_at "w"
  have p1 := srt_perm (ltK ks) n (ps.take (ps.length / 2))
  have p2 := srt_perm (ltK ks) n (ps.drop (ps.length / 2))
  have l1 := p1.length_eq
  have l2 := p2.length_eq
  rw [List.length_take] at l1
  rw [List.length_drop] at l2
  refine call_ok (by simp [bors]) (by simp [bors]) fun Q2 hQ => ⟨ks, _, _, rfl, gk, fun i hi => hp i (List.mem_of_mem_take (p1.mem_iff.mp hi)), fun i hi => hp i (List.mem_of_mem_drop (p2.mem_iff.mp hi)), by omega, hQ _ _ rfl ?_⟩
  walk_at "s"
  walk_at "w"
  walk_at "o"
  have e : srt (ltK ks) (n + 1) ps = ((mrg (ltK ks) (srt (ltK ks) n (ps.take (ps.length / 2))).1 (srt (ltK ks) n (ps.drop (ps.length / 2))).1).1, (srt (ltK ks) n (ps.take (ps.length / 2))).2 + (srt (ltK ks) n (ps.drop (ps.length / 2))).2 + (mrg (ltK ks) (srt (ltK ks) n (ps.take (ps.length / 2))).1 (srt (ltK ks) n (ps.drop (ps.length / 2))).1).2) := by
    conv => lhs; unfold srt
    rw [if_neg (by omega)]
  rw [e] at q
  simp only [Int.natCast_add] at q
  exact q
def KeyOf (ws : List Int) (d : D) : Prop := ∃ rs : List Rk, d = .tuple (rs.map encR) ∧ rs.length = ws.length ∧ ∀ (i : Nat) (w : Int) (r : Rk), ws[i]? = some w → rs[i]? = some r → RkOf w r
theorem encR_alike {w : Int} {a b : Rk} (ha : RkOf w a) (hb : RkOf w b) : PySem.W.alike (encR a) (encR b) = true := by
  cases a <;> cases b <;> simp [encR, PySem.W.alike, PySem.W.alikeAll] <;> simp [RkOf] at ha hb <;> omega
theorem encs_alike : ∀ (ws : List Int) (as bs : List Rk), as.length = ws.length → bs.length = ws.length → (∀ (i : Nat) (w : Int) (r : Rk), ws[i]? = some w → as[i]? = some r → RkOf w r) → (∀ (i : Nat) (w : Int) (r : Rk), ws[i]? = some w → bs[i]? = some r → RkOf w r) → PySem.W.alikeAll (as.map encR) (bs.map encR) = true
  | _, [], _, _, _, _, _ => by simp [PySem.W.alikeAll]
  | [], _ :: _, _, h, _, _, _ => by simp at h
  | _ :: _, _ :: _, [], _, h, _, _ => by simp at h
  | w :: ws, a :: as, b :: bs, h1, h2, h3, h4 => by
    rw [List.map_cons, List.map_cons]
    simp only [PySem.W.alikeAll, Bool.and_eq_true]
    exact ⟨encR_alike (h3 0 w a rfl rfl) (h4 0 w b rfl rfl), encs_alike ws as bs (by simpa using h1) (by simpa using h2) (fun i w r hw hr => h3 (i + 1) w r (by simpa using hw) (by simpa using hr)) fun i w r hw hr => h4 (i + 1) w r (by simpa using hw) (by simpa using hr)⟩
theorem smallAll_of : ∀ {l : List D}, (∀ d ∈ l, smallD d = true) → smallAll l = true
  | [], _ => rfl
  | x :: l, h => by
    simp only [smallAll, Bool.and_eq_true]
    exact ⟨h x List.mem_cons_self, smallAll_of fun d hd => h d (List.mem_cons_of_mem _ hd)⟩
theorem plainAll_of : ∀ {l : List D}, (∀ d ∈ l, d.plain = true) → PyData.plainAll l = true
  | [], _ => by simp [PyData.plainAll]
  | x :: l, h => by
    simp only [PyData.plainAll, Bool.and_eq_true]
    exact ⟨h x List.mem_cons_self, plainAll_of fun d hd => h d (List.mem_cons_of_mem _ hd)⟩
theorem keys_good {ws : List Int} {ks : List D} (h0 : 0 < ws.length) (h1 : ws.length ≤ 1000) (h : ∀ d ∈ ks, KeyOf ws d) : GoodKeys ks := by
  refine ⟨fun a ha b hb => ?_, fun d hd => ?_, fun d hd => ?_, fun d hd => ?_, fun d hd => ?_⟩
  · obtain ⟨as, rfl, h2, h3⟩ := h a ha
    obtain ⟨bs, rfl, h4, h5⟩ := h b hb
    simp only [PySem.W.alike]
    exact encs_alike ws as bs h2 h4 h3 h5
  · obtain ⟨as, rfl, h2, _⟩ := h d hd
    cases as with
    | nil => simp at h2; omega
    | cons a as => exact ⟨_, _, rfl⟩
  · obtain ⟨as, rfl, h2, _⟩ := h d hd
    simp only [PyData.depth]
    have := depthAll_le (n := 1) (l := as.map encR) fun d hd => by
      obtain ⟨r, _, rfl⟩ := List.mem_map.mp hd
      cases r <;> simp [encR, PyData.depth, PyData.depthAll]
    omega
  · obtain ⟨as, rfl, h2, _⟩ := h d hd
    simp only [smallD, Bool.and_eq_true, decide_eq_true_eq, List.length_map]
    refine ⟨by omega, smallAll_of fun d hd => ?_⟩
    obtain ⟨r, _, rfl⟩ := List.mem_map.mp hd
    cases r <;> simp [encR, smallD, smallAll]
  · obtain ⟨as, rfl, h2, _⟩ := h d hd
    simp only [PyData.plain]
    refine plainAll_of fun d hd => ?_
    obtain ⟨r, _, rfl⟩ := List.mem_map.mp hd
    cases r <;> simp [encR, PyData.plain, PyData.plainAll]
theorem GoodKeys.sort {ks : List D} {Q : List D → Prop} (g : GoodKeys ks) (q : ∀ ys, ys.Perm ks → Q ys) : sortD [.list ks] Q := sort_ok g.1 (.inl fun d hd => g.2.1 d hd) (fun d hd => Nat.le_trans (g.2.2.1 d hd) (by decide)) q
theorem rp_law_scene (as : List SD) (Q : RS → List SD → Prop) (h : sp_law_scene as Q) : rd_law_scene { nx := fun δ => Q (.dt .none) (outs as δ), rt := fun d δ => Q d (outs as δ) } (startD 11 as) := by
  obtain ⟨p, ns, rfl, q⟩ := h
  show rd_law_scene _ [deck p ns, .un, .un, .un, .un, .un, .un, .un, .un, .un, .un]
  unfold rd_law_scene
  walk_at "v"
  refine call_ok (by simp [bors]) (by simp [bors]) fun Q2 hQ => ⟨p, ns, 6, rfl, by decide, fun r1 ns1 h1 h2 => hQ _ _ rfl ?_⟩
  walk_at "s"
  walk_at "v"
  refine call_ok (by simp [bors]) (by simp [bors]) fun Q2 hQ => ⟨p, ns1, 4, rfl, by decide, fun r2 ns2 h3 h4 => hQ _ _ rfl ?_⟩
  walk_at "s"
  walk_at "v"
  have hw : 1 ≤ 1 + r1 / 3 + r2 / 3 ∧ 1 + r1 / 3 + r2 / 3 ≤ 3 := by omega
  generalize 1 + r1 / 3 + r2 / 3 = wide at hw ⊢
  refine st_lc (own1 rfl rfl) ?_
  walk_at "v"
  refine ⟨_, rfl, by omega, by omega, own1 rfl rfl, lc_inv (fun i acc δ => ∃ (ns ws : List Int), acc = ws.map .int ∧ ws.length = i ∧ δ = [deck p ns, .dt (.int wide), .un, .un, .un, .un, .un, .un, .un, .un, .un]) ⟨ns2, [], rfl, rfl, rfl⟩ ?_ ?_⟩
  · rintro i x acc δ N hx ⟨ns3, ws, rfl, hi, rfl⟩ hN
    have hil := lt_of_get hx
    rw [rngD_len] at hil
    walk_at "s"
    walk_at "v"
    refine ite_T ?_
    walk_at "v"
    refine call_ok (by simp [bors]) (by simp [bors]) fun Q2 hQ => ⟨p, ns3, 5, rfl, by decide, fun r ns4 h5 h6 => hQ _ _ rfl ⟨by rw [List.length_map]; omega, ?_⟩⟩
    walk_at "s"
    exact hN _ _ ⟨ns4, ws ++ [r], by rw [List.map_append]; rfl, by rw [List.length_append]; simp; omega, rfl⟩
  rintro acc δ ⟨ns3, ws, rfl, hwl, rfl⟩
  rw [rngD_len] at hwl
  have hw0 : 0 < ws.length ∧ ws.length ≤ 3 := by omega
  walk_at "v"
  refine call_ok (by simp [bors]) (by simp [bors]) fun Q2 hQ => ⟨p, ns3, 8, rfl, by decide, fun m0 ns4 hm1 hm2 => hQ _ _ rfl ?_⟩
  walk_at "s"
  walk_at "v"
  refine st_ifJ (fun δ => ∃ (ns : List Int) (m : Int), δ = [deck p ns, .dt (.int wide), .dt (.list (ws.map .int)), .dt (.int m), .un, .un, .un, .un, .un, .un, .un] ∧ 0 ≤ m ∧ m ≤ 60) ?_ ?_
  · intro N hN
    walk_at "w"
    refine call_ok (by simp [bors]) (by simp [bors]) fun Q2 hQ => ⟨p, ns4, 3, rfl, by decide, fun r ns5 h5 h6 => hQ _ _ rfl ?_⟩
    walk_at "s"
    walk_at "w"
    refine ite_dec (fun h => ?_) (fun h => ?_)
    · walk_at "w"
      refine call_ok (by simp [bors]) (by simp [bors]) fun Q2 hQ => ⟨p, ns5, 61, rfl, by decide, fun r ns6 h7 h8 => hQ _ _ rfl ?_⟩
      walk_at "s"
      walk_at "w"
      exact hN _ ⟨ns6, r, rfl, by omega, by omega⟩
    · walk_at "w"
      exact hN _ ⟨ns5, m0, rfl, by omega, by omega⟩
  rintro δ ⟨ns5, m1, rfl, hm3, hm4⟩
  walk_at "v"
  refine st_ifJ (fun δ => ∃ (ns : List Int) (m : Int), δ = [deck p ns, .dt (.int wide), .dt (.list (ws.map .int)), .dt (.int m), .un, .un, .un, .un, .un, .un, .un] ∧ 0 ≤ m ∧ m ≤ 60) ?_ ?_
  · intro N hN
    walk_at "w"
    refine ite_dec (fun h => ?_) (fun h => ?_)
    · walk_at "w"
      refine hN _ ⟨ns5, _, rfl, ?_, ?_⟩ <;> (split <;> omega)
    · walk_at "w"
      exact hN _ ⟨ns5, m1, rfl, by omega, by omega⟩
  rintro δ ⟨ns6, m, rfl, hm5, hm6⟩
  walk_at "v"
  rename_i p2
  refine ⟨_, rfl, by omega, by omega, ?_⟩
  refine for_rng (fun i δ => ∃ (ns : List Int) (ks : List D) (k : SD), δ = [deck p ns, .dt (.int wide), .dt (.list (ws.map .int)), .dt (.int m), .ow p2 (.lst ks), k, .un, .un, .un, .un, .un] ∧ isOw k = false ∧ ks.length = i ∧ ∀ d ∈ ks, KeyOf ws d) ⟨ns6, [], .un, rfl, rfl, rfl, by simp⟩ ?_ ?_
  · rintro i δ N hi ⟨ns7, ks, k, rfl, hk, hkl, hks⟩ hN
    walk_at "v"
    refine st_lc (own1 rfl rfl) ?_
    walk_at "v"
    refine ⟨own1 rfl rfl, lc_inv (fun j acc δ => ∃ (ns : List Int) (rs : List Rk), acc = rs.map encR ∧ rs.length = j ∧ (∀ (i : Nat) (w : Int) (r : Rk), ws[i]? = some w → rs[i]? = some r → RkOf w r) ∧ δ = [deck p ns, .dt (.int wide), .dt (.list (ws.map .int)), .dt (.int m), .ow p2 (.lst ks), .dt (.int (0 + (i : Int))), .un, .un, .un, .un, .un]) ⟨ns7, [], rfl, rfl, by simp, rfl⟩ ?_ ?_⟩
    · rintro j x acc δ N hx ⟨ns8, rs, rfl, hj, hrs, rfl⟩ hN
      have hjl := lt_of_get hx
      rw [List.length_map] at hjl
      rw [List.getElem?_map, List.getElem?_eq_getElem hjl] at hx
      cases hx
      walk_at "s"
      walk_at "v"
      refine ite_T ?_
      walk_at "v"
      refine call_ok (by simp [bors]) (by simp [bors]) fun Q2 hQ => ⟨p, ns8, ws[j], rfl, fun r ns9 hr => hQ _ _ rfl ⟨by rw [List.length_map]; omega, ?_⟩⟩
      walk_at "s"
      refine hN _ _ ⟨ns9, rs ++ [r], by rw [List.map_append]; rfl, by rw [List.length_append]; simp; omega, fun i w r' hw hr' => ?_, rfl⟩
      by_cases hij : i < rs.length
      · rw [List.getElem?_append_left hij] at hr'
        exact hrs i w r' hw hr'
      · have : i = rs.length := by
          have := lt_of_get hr'
          rw [List.length_append] at this
          simp at this
          omega
        subst this
        rw [List.getElem?_append_right (Nat.le_refl _), Nat.sub_self] at hr'
        cases hr'
        subst hj
        rw [List.getElem?_eq_getElem hjl] at hw
        cases hw
        exact hr
    rintro acc δ ⟨ns8, rs, rfl, hj, hrs, rfl⟩
    rw [List.length_map] at hj
    walk_at "v"
    refine ⟨p2, _, rfl, by omega, ?_⟩
    walk_at "v"
    refine hN _ ⟨ns8, ks ++ [_], _, rfl, rfl, by rw [List.length_append]; simp; omega, fun d hd => ?_⟩
    rcases List.mem_append.mp hd with hd | hd
    · exact hks d hd
    · cases List.mem_singleton.mp hd
      exact ⟨rs, rfl, hj, hrs⟩
  rintro δ ⟨ns7, ks, k5, rfl, hk5, hkl, hks⟩
  walk_at "v"
  refine call_ok (by simp [bors]) (by simp [bors]) fun Q2 hQ => ⟨p, ns7, 9, rfl, by decide, fun form ns8 hf1 hf2 => hQ _ _ rfl ?_⟩
  walk_at "s"
  walk_at "v"
  refine st_ifJ (fun δ => ∃ (ks : List D), δ = [deck p ns8, .dt (.int wide), .dt (.list (ws.map .int)), .dt (.int m), .dt (.list ks), k5, .dt (.int form), .un, .un, .un, .un] ∧ ks.length = m.toNat ∧ ∀ d ∈ ks, KeyOf ws d) ?_ ?_
  · intro N hN
    walk_at "w"
    refine ite_dec (fun h => ?_) (fun h => ?_)
    · walk_at "w"
      refine (keys_good hw0.1 (by omega) hks).sort fun ys hy => ?_
      walk_at "w"
      exact hN _ ⟨ys, rfl, by rw [hy.length_eq]; omega, fun d hd => hks d (hy.mem_iff.mp hd)⟩
    · walk_at "w"
      exact hN _ ⟨ks, rfl, hkl, hks⟩
  clear hks hkl
  rintro δ ⟨ks, rfl, hkl, hks⟩
  walk_at "v"
  refine st_ifJ (fun δ => ∃ (ks : List D), δ = [deck p ns8, .dt (.int wide), .dt (.list (ws.map .int)), .dt (.int m), .dt (.list ks), k5, .dt (.int form), .un, .un, .un, .un] ∧ ks.length = m.toNat ∧ ∀ d ∈ ks, KeyOf ws d) ?_ ?_
  · intro N hN
    walk_at "w"
    refine ite_dec (fun h => ?_) (fun h => ?_)
    · walk_at "w"
      refine (keys_good hw0.1 (by omega) hks).sort fun ys hy => ?_
      walk_at "w"
      exact hN _ ⟨ys, rfl, by rw [hy.length_eq]; omega, fun d hd => hks d (hy.mem_iff.mp hd)⟩
    · walk_at "w"
      exact hN _ ⟨ks, rfl, hkl, hks⟩
  clear hks hkl
  rintro δ ⟨ks, rfl, hkl, hks⟩
  walk_at "v"
  refine st_ifJ (fun δ => ∃ (ks : List D), δ = [deck p ns8, .dt (.int wide), .dt (.list (ws.map .int)), .dt (.int m), .dt (.list ks), k5, .dt (.int form), .un, .un, .un, .un] ∧ ks.length = m.toNat ∧ ∀ d ∈ ks, KeyOf ws d) ?_ ?_
  · intro N hN
    walk_at "w"
    refine ite_dec (fun h => ?_) (fun h => ?_)
    · walk_at "w"
      refine ite_dec (fun h2 => ?_) (fun h2 => ?_)
      · walk_at "w"
        have h0 : 0 < ks.length := by omega
        refine st_lc (own1 rfl rfl) ?_
        walk_at "w"
        refine ⟨own1 rfl rfl, lc_pure (fun _ => keyAt ks 0) .un rfl (by omega) (fun x hx N hN => ?_) ?_⟩
        · walk_at "w"
          refine st_ixL (keyI (i := 0) h0) ?_
          exact hN
        walk_at "w"
        refine hN _ ⟨_, rfl, by rw [List.length_map]; exact hkl, fun d hd => ?_⟩
        obtain ⟨_, _, rfl⟩ := List.mem_map.mp hd
        exact hks _ (keyAt_mem h0)
      · walk_at "w"
        exact hN _ ⟨ks, rfl, hkl, hks⟩
    · walk_at "w"
      refine ite_F ?_
      walk_at "w"
      exact hN _ ⟨ks, rfl, hkl, hks⟩
  clear hks hkl
  rintro δ ⟨ks, rfl, hkl, hks⟩
  walk_at "v"
  refine st_ifJ (fun δ => ∃ (ks : List D) (k7 : SD), δ = [deck p ns8, .dt (.int wide), .dt (.list (ws.map .int)), .dt (.int m), .dt (.list ks), k5, .dt (.int form), k7, .un, .un, .un] ∧ ks.length = m.toNat ∧ ∀ d ∈ ks, KeyOf ws d) ?_ ?_
  · intro N hN
    walk_at "w"
    refine ite_dec (fun h => ?_) (fun h => ?_)
    · walk_at "w"
      have gk := keys_good hw0.1 (by omega) hks
      have e1 : (ks.length : Int) / 2 = ((ks.length / 2 : Nat) : Int) := by omega
      rw [e1, cut_drop]
      refine (gk.sub fun d hd => List.mem_of_mem_drop hd).sort fun ys hy => ?_
      walk_at "w"
      rw [cut_take]
      refine (gk.sub fun d hd => List.mem_of_mem_take hd).sort fun zs hz => ?_
      walk_at "w"
      have l1 := hy.length_eq
      have l2 := hz.length_eq
      rw [List.length_drop] at l1
      rw [List.length_take] at l2
      refine st_addL (by omega) ?_
      walk_at "w"
      refine hN _ ⟨_, _, rfl, by rw [List.length_append]; omega, fun d hd => ?_⟩
      rcases List.mem_append.mp hd with hd | hd
      · exact hks d (List.mem_of_mem_drop (hy.mem_iff.mp hd))
      · exact hks d (List.mem_of_mem_take (hz.mem_iff.mp hd))
    · walk_at "w"
      exact hN _ ⟨ks, _, rfl, hkl, hks⟩
  clear hks hkl
  rintro δ ⟨ks, k7, rfl, hkl, hks⟩
  walk_at "v"
  refine st_lc (own1 rfl hk5) ?_
  walk_at "v"
  refine ⟨_, rfl, by omega, by omega, own1 rfl hk5, lc_inv (fun i acc δ => ∃ (ns : List Int), acc.length = i ∧ (∀ d ∈ acc, RowOk d) ∧ δ = [deck p ns, .dt (.int wide), .dt (.list (ws.map .int)), .dt (.int m), .dt (.list ks), k5, .dt (.int form), k7, .un, .un, .un]) ⟨ns8, rfl, by simp, rfl⟩ ?_ ?_⟩
  · rintro i x acc δ N hx ⟨ns3, hi, hacc, rfl⟩ hN
    obtain ⟨hil, rfl⟩ := rngD_get hx
    walk_at "s"
    walk_at "v"
    refine ite_T ?_
    walk_at "v"
    refine call_ok (by simp [bors]) (by simp [bors]) fun Q2 hQ => ⟨p, ns3, _, rfl, fun d ns4 hd => hQ _ _ rfl ⟨by omega, ?_⟩⟩
    walk_at "s"
    refine hN _ _ ⟨ns4, by rw [List.length_append]; simp; omega, fun d' hd' => ?_, rfl⟩
    rcases List.mem_append.mp hd' with hd' | hd'
    · exact hacc d' hd'
    · cases List.mem_singleton.mp hd'
      exact hd
  rintro rs δ ⟨ns9, hrl, hrs, rfl⟩
  rw [rngD_len] at hrl
  walk_at "v"
  rename_i p3
  refine st_ifJ (fun δ => ∃ (rs : List D), δ = [deck p ns9, .dt (.int wide), .dt (.list (ws.map .int)), .dt (.int m), .dt (.list ks), k5, .dt (.int form), k7, .ow p3 (.lst rs), .un, .un] ∧ rs.length = m.toNat ∧ ∀ d ∈ rs, RowOk d) ?_ ?_
  · intro N hN
    walk_at "w"
    refine ite_dec (fun h => ?_) (fun h => ?_)
    · walk_at "w"
      refine ite_dec (fun h2 => ?_) (fun h2 => ?_)
      · walk_at "w"
        refine st_setO ?_
        walk_at "w"
        refine ⟨p3, _, 1, keyAt rs 1, rfl, rfl, keyI (i := 1) (by omega), ?_⟩
        refine ⟨⟨p3, _, rfl⟩, ?_⟩
        walk_at "w"
        have e1 : m - 1 = (((m - 1).toNat : Nat) : Int) := by omega
        rw [e1]
        refine ⟨p3, _, _, (m - 1).toNat, rfl, rfl, ixN_nat (by omega), ?_⟩
        refine hN _ ⟨_, rfl, by rw [List.length_set]; exact hrl, fun d hd => ?_⟩
        rcases List.mem_or_eq_of_mem_set hd with hd | rfl
        · exact hrs d hd
        · exact hrs _ (keyAt_mem (by omega))
      · walk_at "w"
        exact hN _ ⟨rs, rfl, hrl, hrs⟩
    · walk_at "w"
      refine ite_F ?_
      walk_at "w"
      exact hN _ ⟨rs, rfl, hrl, hrs⟩
  clear hrs hrl
  rintro δ ⟨rs, rfl, hrl, hrs⟩
  walk_at "v"
  walk_at "o"
  exact q rs ks ns9 (by omega) (by omega) (keys_good hw0.1 (by omega) hks) hrs
theorem rp_law (as : List SD) (Q : RS → List SD → Prop) (h : spLaw as Q) : rd_law { nx := fun δ => Q (.dt .none) (outs as δ), rt := fun d δ => Q d (outs as δ) } (startD 6 as) := by
  obtain ⟨ns, rfl, hl, q⟩ := h
  show rd_law _ [.dt (.list (ns.map .int)), .un, .un, .un, .un, .un]
  unfold rd_law
  walk_at "v"
  refine call_ok (by simp [bors]) (by simp [bors]) fun Q2 hQ => ⟨ns, rfl, hl, fun ns1 => hQ _ _ rfl ?_⟩
  walk_at "s"
  walk_at "v"
  rename_i p
  refine ⟨_, rfl, by omega, by omega, ?_⟩
  refine for_rng (fun i δ => ∃ (ns' : List Int) (k r3 r4 : SD), δ = [.dt (.list (ns.map .int)), deck p ns', k, r3, r4, .un]) ⟨ns1, .un, .un, .un, rfl⟩ ?_ ?_
  · rintro i δ N hi ⟨ns2, k, r3, r4, rfl⟩ hN
    walk_at "v"
    refine call_ok (by simp [bors]) (by simp [bors]) fun Q2 hQ => ⟨p, ns2, rfl, fun rs ks ns3 h1 h2 gk hr => hQ _ _ rfl ?_⟩
    walk_at "s"
    walk_at "w"
    refine call_ok (by simp [bors]) (by simp [bors]) fun Q2 hQ => ⟨rs, ks, rfl, h1, by omega, gk, hr, hQ _ _ rfl ?_⟩
    walk_at "s"
    walk_at "w"
    refine ite_F ?_
    walk_at "v"
    refine st_ifJ (fun δ => δ = [.dt (.list (ns.map .int)), deck p ns3, .dt (.int (0 + (i : Int))), .dt (.list rs), .dt (.list ks), .un]) ?_ ?_
    · intro N hN
      walk_at "w"
      refine ite_dec (fun h => ?_) (fun h => ?_)
      · walk_at "w"
        rw [cut_takeI rs (by decide)]
        walk_at "w"
        rw [cut_takeI ks (by decide)]
        refine call_ok (by simp [bors]) (by simp [bors]) fun Q2 hQ => ⟨_, _, rfl, by rw [List.length_take, List.length_take, h1], by rw [List.length_take]; omega, gk.sub fun d hd => List.mem_of_mem_take hd, fun d hd => hr d (List.mem_of_mem_take hd), hQ _ _ rfl ?_⟩
        walk_at "s"
        walk_at "w"
        refine ite_F ?_
        walk_at "w"
        exact hN _ rfl
      · walk_at "w"
        refine ite_F ?_
        walk_at "w"
        exact hN _ rfl
    rintro δ rfl
    walk_at "w"
    rw [cut_dropI rs (by decide)]
    walk_at "w"
    rw [cut_dropI ks (by decide)]
    refine call_ok (by simp [bors]) (by simp [bors]) fun Q2 hQ => ⟨_, _, rfl, by rw [List.length_drop, List.length_drop, h1], by rw [List.length_drop]; omega, gk.sub fun d hd => List.mem_of_mem_drop hd, fun d hd => hr d (List.mem_of_mem_drop hd), hQ _ _ rfl ?_⟩
    walk_at "s"
    walk_at "w"
    refine ite_F ?_
    walk_at "w"
    rw [cut_takeI rs (by decide)]
    refine st_lc (own1 rfl rfl) ?_
    walk_at "w"
    rw [cut_takeI rs (by decide)]
    refine ⟨own1 rfl rfl, lc_pure (fun _ => keyAt rs 0) .un rfl (by rw [List.length_take]; omega) (fun x hx N hN => ?_) ?_⟩
    · have h0 : 0 < rs.length := List.length_pos_of_mem (List.mem_of_mem_take hx)
      walk_at "w"
      refine st_ixL (keyI (i := 0) h0) ?_
      exact hN
    walk_at "w"
    refine st_addL (by rw [List.length_take, List.length_map, List.length_take]; omega) ?_
    walk_at "w"
    rw [cut_takeI ks (by decide)]
    walk_at "w"
    rw [cut_takeI ks (by decide)]
    refine st_addL (by rw [List.length_take, List.length_take]; omega) ?_
    walk_at "w"
    refine call_ok (by simp [bors]) (by simp [bors]) fun Q2 hQ => ⟨_, _, rfl, ?_, ?_, gk.sub fun d hd => ?_, fun d hd => ?_, hQ _ _ rfl ?_⟩
    · simp only [List.length_append, List.length_take, List.length_map, h1]
    · simp only [List.length_append, List.length_take, List.length_map]
      omega
    · rcases List.mem_append.mp hd with hd | hd
      · exact List.mem_of_mem_take hd
      · exact List.mem_of_mem_take hd
    · rcases List.mem_append.mp hd with hd | hd
      · exact hr d (List.mem_of_mem_take hd)
      · obtain ⟨x, hx, rfl⟩ := List.mem_map.mp hd
        exact hr _ (keyAt_mem (List.length_pos_of_mem (List.mem_of_mem_take hx)))
    walk_at "s"
    walk_at "w"
    refine ite_F ?_
    walk_at "w"
    exact hN _ ⟨ns3, _, _, _, rfl⟩
  rintro δ ⟨ns2, k, r3, r4, rfl⟩
  walk_at "w"
  refine call_ok (by simp [bors]) (by simp [bors]) fun Q2 hQ => ⟨([] : List D), ([] : List D), rfl, rfl, by simp, ⟨by intro a ha; simp at ha, by simp, by simp, by simp, by simp⟩, by simp, hQ _ _ rfl ?_⟩
  walk_at "s"
  walk_at "w"
  walk_at "o"
  exact q
theorem bm_no {H : Hp} : Bm H (fun _ _ => False) = H := funext fun b => bm_out fun _ z => z
theorem fz_call {K : PySem.W.Frag} {dsp : DSp} {vs : List V} {ds : List D} {H : Hp} {Q : VK} (hd : DpAll K H vs ds) (r : D) (h : ∀ Q2 : RS → List SD → Prop, (∀ as', Q2 (.dt r) as') → dsp (ds.map .dt) Q2)
    (q : ∀ v H' Hs', Ex H H' → Ex H Hs' → Ex Hs' H' → Dp K Hs' v r → Q v H') : spOf K dsp vs H Q E0 := by
  refine ⟨H, ds.map .dt, fun _ _ => False, by rw [List.length_map]; exact dpAll_len hd, Ex.refl _, ⟨fun i s hs => ?_, fun _ _ _ z => z, fun _ _ _ z => z.elim⟩, h _ fun as' v H' Hs' fps' x1 x2 x3 _ _ _ r' => q v H' Hs' (by rw [bm_no] at x1; exact x1) x2 x3 r'⟩
  rw [List.getElem?_map] at hs
  cases hi : ds[i]? with
  | none =>
    rw [hi] at hs
    cases hs
  | some d =>
    rw [hi] at hs
    cases hs
    obtain ⟨v, hv, r'⟩ := dpAll_get hd hi
    exact ⟨some v, by rw [List.getElem?_map, hv]; rfl, r', fun _ z => z⟩
theorem fz_yes {K : PySem.W.Frag} {dsp : DSp} {vs : List V} {ds : List D} {H : Hp} {Q : VK} (hd : DpAll K H vs ds) (h : ∀ Q2 : RS → List SD → Prop, (∀ as', Q2 (.dt (.bool true)) as') → dsp (ds.map .dt) Q2)
    (q : ∀ H', Ex H H' → Q (.bl true) H') : spOf K dsp vs H Q E0 := fz_call hd _ h fun v H' Hs' e _ _ r => by
  cases r
  exact q H' e
theorem sql {K : PySem.W.Frag} {H : Hp} {a : Addr} {xs : List V} (h : H a = some (.lst xs)) : SqL K H a xs := .inl (.inl h)
theorem sqt {K : PySem.W.Frag} {H : Hp} {a : Addr} {xs : List V} (h : H a = some (.tup xs)) : SqT K H a xs := .inl (.inl h)
theorem dp_nats {K : PySem.W.Frag} {H : Hp} : ∀ l : List Nat, DpAll K H (l.map fun (i : Nat) => V.int (i : Int)) (l.map natD)
  | [] => .nil
  | x :: l => .cons (.int _) (dp_nats l)
theorem dp_nats_of {K : PySem.W.Frag} {H : Hp} : ∀ {vs : List V} {l : List Nat}, DpAll K H vs (l.map natD) → vs = l.map fun (i : Nat) => V.int (i : Int)
  | _, [], h => by cases h; rfl
  | _, x :: l, h => by
    cases h with
    | cons r t =>
      cases r
      rw [dp_nats_of t]
      rfl
def pickV (xs : List V) (os : List Nat) : List V := os.map fun j => xs.getD j .non
def orderOf (ks : List D) : List Nat := (srt (ltK ks) 64 (List.range ks.length)).1
def countOf (ks : List D) : Nat := (srt (ltK ks) 64 (List.range ks.length)).2
def spSC (K : PySem.W.Frag) : Sp := fun vs H Q _ => ∃ (a b : Addr) (xs : List V) (ks : List D), vs = [.ref a, .ref b] ∧ SqL K H a xs ∧ Dp K H (.ref b) (.list ks) ∧ xs.length = ks.length ∧ ks.length ≤ 63 ∧ GoodKeys ks ∧
  ∀ (t l : Addr) (H' : Hp), Ex H H' → H t = none → H l = none → t ≠ l → H' t = some (.tup [.ref l, .int (countOf ks)]) → H' l = some (.lst (pickV xs (orderOf ks))) → Q (.ref t) H'
theorem orderOf_lt {ks : List D} {i : Nat} (h : i ∈ orderOf ks) : i < ks.length := List.mem_range.mp ((srt_perm (ltK ks) 64 (List.range ks.length)).mem_iff.mp h)
theorem orderOf_len (ks : List D) : (orderOf ks).length = ks.length := by
  have := (srt_perm (ltK ks) 64 (List.range ks.length)).length_eq
  rw [List.length_range] at this
  exact this
theorem ex_upd {H H' : Hp} {p : Addr} {o : HO} (e : Ex H H') (h : H p = none) : Ex H (upd H' p o) := fun b u hb => by
  have hbp : b ≠ p := fun z => by
    rw [z, h] at hb
    cases hb
  rw [upd_ne hbp]
  exact e b u hb
theorem raw_lc {K : PySem.W.Frag} {σ : L2.St} {H : Hp} {i j : Nat} {a : Addr} {vs : List V} {te : TE} {Q : VK} (f : V → V) (hj : σ[j]? = some (some (.ref a))) (ha : SqL K H a vs) (hl : vs.length ≤ 1000)
    (step : ∀ v ∈ vs, ∀ (H' : Hp) (R : VK), Ex H H' → R (f v) H' → te ((L2.wipe σ [i]).set i (some v)) H' R) (q : ∀ p H', H p = none → Ex H H' → H' p = some (.lst (vs.map f)) → Q (.ref p) H') : tLc (iList K (tVar j)) (gName i) tYes te [i] σ H Q := by
  refine ⟨.ref a, hj, a, rfl, ⟨vs, ha⟩, fun p hp => ⟨fun k m H' => m + k = vs.length ∧ Ex H H' ∧ H' p = some (.lst ((vs.take k).map f)), ⟨vs.length, by omega, Ex.new hp, upd_same⟩, ?_⟩⟩
  rintro k m H' ⟨hm, e, hp'⟩
  by_cases hk : k < vs.length
  · refine .inr ⟨⟨vs, vs[k], e.sl ha, List.getElem?_eq_getElem hk⟩, fun H2 => Ex H H2 ∧ H2 p = some (.lst ((vs.take (k + 1)).map f)), fun H2 ⟨e2, h2⟩ => ⟨m - 1, by omega, by omega, e2, h2⟩, fun x H2 ⟨eH, y⟩ => ?_⟩
    subst eH
    have hx := y vs (e.sl ha)
    rw [List.getElem?_eq_getElem hk] at hx
    cases hx
    refine ⟨wipe_own (by simp), ?_⟩
    refine step vs[k] (List.getElem_mem hk) _ _ e ⟨_, hp', ?_, ex_upd e hp, ?_⟩
    · rw [List.length_map, List.length_take]
      exact small1000 (by omega)
    · rw [upd_same, List.take_add_one, List.getElem?_eq_getElem hk, List.map_append]
      rfl
  · refine .inl ⟨⟨vs, e.sl ha, by omega⟩, q p H' hp e ?_⟩
    rw [List.take_of_length_le (by omega)] at hp'
    exact hp'
section
variable {P : Program} {w : World} {K : PySem.W.Frag} {mg : Str → Option Value} {base : Heap}
theorem ok_sorted_counted {k : Nat} (Y : Fs K mg) (T : Bt mg) {k1 : Nat} (hk : k1 ≤ k) (G : FnOk P w K mg base CX0 k1 Y.a_halves_sorted Y.d_halves_sorted ["ranks", "places"] (spOf K (sp_halves_sorted 64))) :
    FnOk P w K mg base CX0 (k + 1) Y.a_sorted_counted Y.d_sorted_counted ["rows", "ranks"] (spSC K) := by
  refine Y.F_sorted_counted.ok sc_sorted_counted (fun vs H Q E h => ?_) (fun cdv A outer s H vs Q E hr h => ?_)
  · obtain ⟨_, _, _, _, rfl, _⟩ := h
    rfl
  obtain ⟨a, b, xs, ks, rfl, ha, hb, hl, h63, gk, q⟩ := h
  refine ⟨_, pss_cons (ps_asg (pe_call G (hr.mono hk) rfl Y.m_halves_sorted Y.F_halves_sorted.kp Y.b_halves_sorted .nil pass0 (pa_cons (pv 1) (pa_cons (pe_listRg rfl rfl T.b_list (prg_1 rfl T.b_range (JE.p (by exact je_callB cd_len rfl T.b_len PySem.boot_len (ja_cons (je_var 0) ja_nil))))) pa_nil)))
      (jg_tup rfl (jgs_cons (jg_name (i := 2) sc_sorted_counted.nd) (jgs_cons (jg_name (i := 3) sc_sorted_counted.nd) jgs_nil))).p)
    (pss_one (ps_ret (pe_tup (pa_cons (JN.p (by exact jn_lc (i := 4) rfl sc_sorted_counted.nd (ji_list (je_var 2)) (blkOk_by (N := ["rows", "ranks", "order", "counted", "place"]) (sc := defScope s_sorted_counted) (by decide +kernel)) (fun _ _ _ _ _ => pg_name (i := 4) sc_sorted_counted.nd rfl (Or.inl rfl)) (fun _ _ _ _ _ => by exact (je_ix (je_var 0) (je_var 4))))) (pa_cons (pv 3) pa_nil))))), ?_⟩
  show tSeq (tAsg (tCall (spOf K (sp_halves_sorted 64)) [] E0 (tCons (tVar 1) (tCons (tLstRg (tRg1 (tCB (rLenU K) (tCons (tVar 0) tNil)))) tNil))) (gTup K 2 (gCons (gName 2) (gCons (gName 3) gNil)))) (tRet (tTup (tCons (tLc (iList K (tVar 2)) (gName 4) tYes (tOp (rIxU K) (tVar 0) (tVar 4)) [4]) (tCons (tVar 3) tNil)))) { nx := fun _ H' => Q .non H', rt := Q } [some (.ref a), some (.ref b), none, none, none] H
  refine ⟨.ref b, rfl, .ref a, rfl, _, xs.length, rfl, .inl ⟨xs, ha, rfl⟩, _, rfl, RgOk.of_le (by omega) (by omega) (by omega) (by omega), fun p hp => ?_⟩
  have e1 : Ex H (upd H p (.lst (rgV 0 (xs.length : Int)))) := Ex.new hp
  have er : rgV 0 (xs.length : Int) = (List.range ks.length).map fun (i : Nat) => V.int (i : Int) := by
    unfold rgV
    rw [hl]
    simp
  refine fz_call (K := K) (ds := [.list ks, .list ((List.range ks.length).map natD)]) (.cons (dp_mono e1 hb) (.cons (.lst (sql upd_same) (by rw [er]; exact dp_nats _)) .nil)) _ (fun Q2 hQ => ⟨ks, List.range ks.length, rfl, gk, fun i hi => List.mem_range.mp hi, by rw [List.length_range]; omega, by rw [List.length_range]; omega, hQ _⟩) fun v H1 Hs1 x1 x2 x3 r => ?_
  cases r with
  | @tup t vs _ hst hall =>
  cases hall with
  | cons r1 r2 =>
  cases r1 with
  | @lst o ws _ hsl hws =>
  cases r2 with
  | cons r3 r4 =>
  cases r3
  cases r4
  have eo := dp_nats_of hws
  have e2 := e1.trans x1
  refine ⟨t, _, rfl, x3.st hst, rfl, _, _, rfl, _, _, rfl, rfl, ?_⟩
  show tRet (tTup (tCons (tLc (iList K (tVar 2)) (gName 4) tYes (tOp (rIxU K) (tVar 0) (tVar 4)) [4]) (tCons (tVar 3) tNil))) { nx := fun x H' => Q V.non H', rt := Q } [some (.ref a), some (.ref b), some (.ref o), some (.int ((srt (ltK ks) 64 (List.range ks.length)).2 : Nat)), none] H1
  unfold tRet tTup
  rw [show ∀ (x y : TE) (σ : L2.St) (H : Hp) (Q : List V → Hp → Prop), tCons x (tCons y tNil) σ H Q = x σ H fun v H1 => tCons y tNil σ H1 fun vs H2 => Q (v :: vs) H2 from fun _ _ _ _ _ => rfl]
  refine raw_lc (σ := [some (.ref a), some (.ref b), some (.ref o), some (.int ((srt (ltK ks) 64 (List.range ks.length)).2 : Nat)), none]) (i := 4) (j := 2) (fun v => match v with | .int i => xs.getD i.toNat .non | _ => .non) (a := o) rfl (x3.sl hsl) ?_ (fun v hv H2 R e3 hR => ?_) fun l H2 hl0 e3 hl2 => ?_
  · rw [eo, List.length_map]
    exact Nat.le_trans (Nat.le_of_eq (orderOf_len ks)) (by omega)
  · rw [eo] at hv
    obtain ⟨i, hi, rfl⟩ := List.mem_map.mp hv
    have hik := orderOf_lt hi
    refine ⟨.ref a, rfl, .int (i : Int), rfl, .inl ⟨a, xs, _, _, rfl, rfl, (e2.trans e3).sl ha, ?_, hR⟩⟩
    show atI xs (i : Int) = some (xs.getD i .non)
    rw [atI_cast, List.getD_eq_getElem?_getD, List.getElem?_eq_getElem (by omega)]
    rfl
  · refine ⟨_, rfl, Nat.le_of_lt (small1000 (show 2 ≤ 1000 by decide)), fun t2 ht2 => ?_⟩
    have ne : t2 ≠ l := fun z => by
      rw [z, hl2] at ht2
      cases ht2
    refine q t2 l _ (ex_upd (e2.trans e3) ((e2.trans e3).none ht2)) ((e2.trans e3).none ht2) (e2.none hl0) ne upd_same ?_
    rw [upd_ne (Ne.symm ne), hl2, eo, List.map_map]
    rfl
end
abbrev dl (a b : D) : Bool := PySem.W.dataLt a b
theorem dl_trans {a b c : D} (h1 : dl a b = true) (h2 : dl b c = true) : dl a c = true := PyProof.Rows.lex_trans _ _ _ h1 h2
theorem dl_neg {a c : D} (b : D) (h : dl a c = true) : dl a b = true ∨ dl b c = true := PyProof.Rows.lex_negTrans _ _ _ h
theorem dl_total {a b : D} (h1 : dl a b = false) (h2 : dl b a = false) : PySem.W.keyToks a = PySem.W.keyToks b := PyProof.Rows.lex_total _ _ h1 h2
theorem dl_l {a b : D} (h : PySem.W.keyToks a = PySem.W.keyToks b) (x : D) : dl a x = dl b x := by
  unfold dl PySem.W.dataLt
  rw [h]
theorem dl_r {a b : D} (h : PySem.W.keyToks a = PySem.W.keyToks b) (x : D) : dl x a = dl x b := by
  unfold dl PySem.W.dataLt
  rw [h]
theorem eqv_dl {a b : D} (h : PySem.W.alike a b = true) : PyData.eqv a b = (!dl a b && !dl b a) := by
  cases e : PyData.eqv a b with
  | true =>
    have t := (PySem.W.toks_eqv a b h).1 e
    have h1 : dl a b = false := by
      rw [dl_l t]
      exact lt_irr b
    have h2 : dl b a = false := by
      rw [dl_r t]
      exact lt_irr b
    rw [h1, h2]
    rfl
  | false =>
    cases h1 : dl a b with
    | true => rfl
    | false =>
      cases h2 : dl b a with
      | true => rfl
      | false =>
        have t := dl_total h1 h2
        have z := (PySem.W.toks_eqv a b h).2 e [] [.inl 0]
        rw [t, PySem.W.lex_pre] at z
        rw [show PyProof.Rows.lexLt PyProof.Rows.itemOrd (PySem.W.keyToks b) (PySem.W.keyToks b) = false from PyProof.Rows.lex_irrefl _] at z
        exact absurd z (by decide)
structure WO (lt : Nat → Nat → Bool) : Prop where
  irr : ∀ i, lt i i = false
  trans : ∀ {i j k}, lt i j = true → lt j k = true → lt i k = true
  neg : ∀ {i k} (j), lt i k = true → lt i j = true ∨ lt j k = true
theorem wo_K (ks : List D) : WO (ltK ks) := ⟨fun _ => lt_irr _, fun h1 h2 => dl_trans h1 h2, fun j h => dl_neg (keyAt ks j) h⟩
theorem WO.asym {lt : Nat → Nat → Bool} (W : WO lt) {i j : Nat} (h : lt i j = true) : lt j i = false := by
  cases e : lt j i with
  | false => rfl
  | true =>
    have := W.trans h e
    rw [W.irr] at this
    cases this
def Rs (lt : Nat → Nat → Bool) (i j : Nat) : Prop := lt j i = false ∧ (lt i j = true ∨ i < j)
theorem mrg_sorted {lt : Nat → Nat → Bool} (W : WO lt) : ∀ (n : Nat) (as bs : List Nat), as.length + bs.length ≤ n → as.Pairwise (Rs lt) → bs.Pairwise (Rs lt) → (∀ a ∈ as, ∀ b ∈ bs, a < b) → (mrg lt as bs).1.Pairwise (Rs lt)
  | _, [], bs, _, _, hb, _ => by rw [mrg_nil]; exact hb
  | _, a :: as, [], _, ha, _, _ => by rw [mrg_end]; exact ha
  | 0, _ :: _, _ :: _, h, _, _, _ => by simp at h
  | n + 1, a :: as, b :: bs, h, ha, hb, hab => by
    rw [mrg_cons]
    simp only [List.length_cons] at h
    obtain ⟨ha1, ha2⟩ := List.pairwise_cons.mp ha
    obtain ⟨hb1, hb2⟩ := List.pairwise_cons.mp hb
    cases e : lt b a with
    | true =>
      rw [if_pos rfl]
      refine List.pairwise_cons.mpr ⟨fun x hx => ?_, mrg_sorted W n (a :: as) bs (by simp; omega) ha hb2 fun x hx y hy => hab x hx y (List.mem_cons_of_mem _ hy)⟩
      have hx := (mrg_perm lt _ _ _ (Nat.le_refl _)).mem_iff.mp hx
      rcases List.mem_append.mp hx with hx | hx
      · have key : lt b x = true := by
          rcases List.mem_cons.mp hx with rfl | hx
          · exact e
          · rcases W.neg x e with h | h
            · exact h
            · rw [(ha1 x hx).1] at h
              cases h
        exact ⟨W.asym key, .inl key⟩
      · exact hb1 x hx
    | false =>
      rw [if_neg Bool.false_ne_true]
      refine List.pairwise_cons.mpr ⟨fun x hx => ?_, mrg_sorted W n as (b :: bs) (by simp; omega) ha2 hb fun x hx y hy => hab x (List.mem_cons_of_mem _ hx) y hy⟩
      have hx := (mrg_perm lt _ _ _ (Nat.le_refl _)).mem_iff.mp hx
      rcases List.mem_append.mp hx with hx | hx
      · exact ha1 x hx
      · refine ⟨?_, .inr (hab a List.mem_cons_self x hx)⟩
        rcases List.mem_cons.mp hx with rfl | hx
        · exact e
        · cases e2 : lt x a with
          | false => rfl
          | true =>
            rcases W.neg b e2 with h | h
            · rw [(hb1 x hx).1] at h
              cases h
            · rw [e] at h
              cases h
theorem srt_sorted {lt : Nat → Nat → Bool} (W : WO lt) : ∀ (k : Nat) (ps : List Nat), ps.Pairwise (· < ·) → ps.length ≤ k + 1 → (srt lt k ps).1.Pairwise (Rs lt)
  | 0, ps, _, hl => by
    match ps, hl with
    | [], _ => exact .nil
    | [_], _ => exact List.pairwise_singleton _ _
  | k + 1, ps, hp, hl => by
    unfold srt
    split
    · match ps with
      | [] => exact .nil
      | [_] => exact List.pairwise_singleton _ _
      | _ :: _ :: _ => rename_i h; simp at h; omega
    · refine mrg_sorted W _ _ _ (Nat.le_refl _) (srt_sorted W k _ (hp.sublist (List.take_sublist _ _)) (by rw [List.length_take]; omega)) (srt_sorted W k _ (hp.sublist (List.drop_sublist _ _)) (by rw [List.length_drop]; omega)) fun a ha b hb => ?_
      have ha := (srt_perm lt k _).mem_iff.mp ha
      have hb := (srt_perm lt k _).mem_iff.mp hb
      rw [← List.take_append_drop (ps.length / 2) ps] at hp
      exact (List.pairwise_append.mp hp).2.2 a ha b hb
theorem order_pair {ks : List D} (h63 : ks.length ≤ 63) : (orderOf ks).Pairwise (Rs (ltK ks)) := srt_sorted (wo_K ks) 64 _ List.pairwise_lt_range (by rw [List.length_range]; omega)
theorem order_perm (ks : List D) : (orderOf ks).Perm (List.range ks.length) := srt_perm _ _ _
def Bf (lt : Nat → Nat → Bool) (k j : Nat) : Bool := lt j k || (!lt k j && decide (j < k))
theorem bf_of {lt : Nat → Nat → Bool} {i j : Nat} (h : Rs lt i j) : Bf lt j i = true ∧ Bf lt i j = false := by
  obtain ⟨h1, h2⟩ := h
  unfold Bf
  refine ⟨?_, ?_⟩
  · rcases h2 with h2 | h2
    · rw [h2]
      rfl
    · rw [h1, decide_eq_true h2]
      simp
  · rw [h1]
    rcases h2 with h2 | h2
    · rw [h2]
      rfl
    · rw [decide_eq_false (by omega)]
      simp
theorem bf_self {lt : Nat → Nat → Bool} (W : WO lt) (i : Nat) : Bf lt i i = false := by
  unfold Bf
  rw [W.irr, decide_eq_false (Nat.lt_irrefl i)]
  rfl
theorem place_of {lt : Nat → Nat → Bool} (W : WO lt) {o : List Nat} (hs : o.Pairwise (Rs lt)) {p : Nat} (hp : p < o.length) : o.countP (Bf lt o[p]) = p := by
  have e : o = o.take p ++ o[p] :: o.drop (p + 1) := by
    conv => lhs; rw [← List.take_append_drop p o, List.drop_eq_getElem_cons hp]
  have hs' := hs
  rw [e] at hs'
  obtain ⟨h1, h2, h3⟩ := List.pairwise_append.mp hs'
  obtain ⟨h4, h5⟩ := List.pairwise_cons.mp h2
  have key : ∀ q, q = o[p] → (o.take p ++ q :: o.drop (p + 1)).countP (Bf lt o[p]) = p := by
    rintro q rfl
    rw [List.countP_append, List.countP_cons_of_neg (by rw [bf_self W]; exact Bool.false_ne_true)]
    have c1 : (o.take p).countP (Bf lt o[p]) = (o.take p).length := List.countP_eq_length.mpr fun x hx => (bf_of (h3 x hx o[p] List.mem_cons_self)).1
    have c2 : (o.drop (p + 1)).countP (Bf lt o[p]) = 0 := List.countP_eq_zero.mpr fun x hx => by
      rw [(bf_of (h4 x hx)).2]
      exact Bool.false_ne_true
    rw [c1, c2, List.length_take]
    omega
  exact (congrArg (List.countP (Bf lt o[p])) e).trans (key _ rfl)
theorem countP_two {α : Type} (p q r : α → Bool) : ∀ l : List α, (∀ x ∈ l, r x = (p x || q x) ∧ (p x = true → q x = false)) → l.countP r = l.countP p + l.countP q
  | [], _ => rfl
  | x :: l, h => by
    have ih := countP_two p q r l fun y hy => h y (List.mem_cons_of_mem _ hy)
    obtain ⟨h1, h2⟩ := h x List.mem_cons_self
    rw [List.countP_cons, List.countP_cons, List.countP_cons, ih, h1]
    cases hp : p x with
    | true =>
      rw [h2 hp]
      simp
      omega
    | false =>
      cases hq : q x with
      | true =>
        simp
        omega
      | false => simp
theorem countP_below {q : Nat → Bool} {k : Nat} : ∀ n, k ≤ n → (List.range n).countP (fun j => decide (j < k) && q j) = (List.range k).countP q := by
  intro n hn
  induction n with
  | zero =>
    have : k = 0 := by omega
    subst this
    rfl
  | succ n ih =>
    by_cases h : k = n + 1
    · subst h
      refine List.countP_congr fun x hx => ?_
      rw [decide_eq_true (List.mem_range.mp hx)]
      simp
    · rw [List.range_succ, List.countP_append, ih (by omega), List.countP_cons_of_neg (by rw [decide_eq_false (by omega)]; simp)]
      rfl
theorem keys_range (ks : List D) : ks = (List.range ks.length).map (keyAt ks) := by
  refine List.ext_getElem? fun i => ?_
  by_cases h : i < ks.length
  · rw [List.getElem?_map, List.getElem?_range h, keyAt_get h]
    rfl
  · rw [List.getElem?_eq_none (by omega), List.getElem?_eq_none (by rw [List.length_map, List.length_range]; omega)]
theorem keys_take {ks : List D} {k : Nat} (h : k ≤ ks.length) : ks.take k = (List.range k).map (keyAt ks) := by
  conv => lhs; rw [keys_range ks]
  rw [← List.map_take, List.take_range]
  rw [Nat.min_eq_left h]
theorem lessAt_count {ks : List D} (g : GoodKeys ks) {k : Nat} (hk : k < ks.length) : lessAt ks k = (List.range ks.length).countP (Bf (ltK ks) k) := by
  have e1 : (ks.filter fun d => PySem.W.dataLt d (keyAt ks k)).length = (List.range ks.length).countP fun j => ltK ks j k := by
    rw [← List.countP_eq_length_filter]
    have : ∀ kk : D, ks.countP (fun d => PySem.W.dataLt d kk) = (List.range ks.length).countP fun j => PySem.W.dataLt (keyAt ks j) kk := by
      intro kk
      conv => lhs; rw [keys_range ks]
      rw [List.countP_map]
      rfl
    exact this _
  have e2 : ((ks.take k).filter fun d => PyData.eqv d (keyAt ks k)).length = (List.range ks.length).countP fun j => decide (j < k) && PyData.eqv (keyAt ks j) (keyAt ks k) := by
    rw [← List.countP_eq_length_filter, countP_below _ (by omega), keys_take (by omega), List.countP_map]
    rfl
  unfold lessAt
  rw [e1, e2]
  refine (countP_two _ _ _ _ fun j hj => ?_).symm
  have hj := List.mem_range.mp hj
  have ee := eqv_dl (g.1 _ (keyAt_mem hj) _ (keyAt_mem hk))
  have f1 : ltK ks j k = dl (keyAt ks j) (keyAt ks k) := rfl
  have f2 : ltK ks k j = dl (keyAt ks k) (keyAt ks j) := rfl
  unfold Bf
  rw [ee, f1, f2]
  refine ⟨?_, fun h => ?_⟩
  · cases dl (keyAt ks j) (keyAt ks k) <;> cases dl (keyAt ks k) (keyAt ks j) <;> cases decide (j < k) <;> rfl
  · rw [h]
    simp
theorem foldl_set_get {f : Nat → Nat} {g : Nat → D} {p k0 : Nat} (h0 : f k0 = p) : ∀ (l : List Nat) (o : List D), (∀ k ∈ l, f k = p → k = k0) → p < o.length → (k0 ∈ l ∨ o[p]? = some (g k0)) → (l.foldl (fun out k => out.set (f k) (g k)) o)[p]? = some (g k0)
  | [], o, _, _, h => by
    rcases h with h | h
    · simp at h
    · exact h
  | k :: l, o, h1, h2, h3 => by
    rw [List.foldl_cons]
    refine foldl_set_get h0 l _ (fun k' hk' => h1 k' (List.mem_cons_of_mem _ hk')) (by rw [List.length_set]; exact h2) ?_
    by_cases hk : f k = p
    · have := h1 k List.mem_cons_self hk
      subst this
      right
      rw [hk, List.getElem?_set_self h2]
    · rcases h3 with h3 | h3
      · rcases List.mem_cons.mp h3 with rfl | h3
        · exact absurd h0 hk
        · exact .inl h3
      · right
        rw [List.getElem?_set_ne hk]
        exact h3
theorem lsorted_len (rs ks : List D) : (lsorted rs ks).length = rs.length := by
  unfold lsorted
  rw [foldl_set_len, List.length_map]
theorem order_sorted {rs ks : List D} (g : GoodKeys ks) (h : rs.length = ks.length) (h63 : ks.length ≤ 63) : (orderOf ks).map (keyAt rs) = lsorted rs ks := by
  have ol := orderOf_len ks
  have at_p : ∀ {p : Nat} (hp : p < (orderOf ks).length), lessAt ks (orderOf ks)[p] = p := fun {p} hp => by
    rw [lessAt_count g (orderOf_lt (List.getElem_mem hp)), ← (order_perm ks).countP_eq]
    exact place_of (wo_K ks) (order_pair h63) hp
  refine List.ext_getElem? fun p => ?_
  by_cases hp : p < ks.length
  · have hp' : p < (orderOf ks).length := by omega
    rw [List.getElem?_map, List.getElem?_eq_getElem hp']
    symm
    refine foldl_set_get (at_p hp') _ _ (fun k hk hkp => ?_) (by rw [List.length_map]; omega) (.inl ?_)
    · have hk' := List.mem_range.mp hk
      have hm : k ∈ orderOf ks := (order_perm ks).mem_iff.mpr (List.mem_range.mpr (by omega))
      obtain ⟨q, hq, rfl⟩ := List.getElem_of_mem hm
      have := at_p hq
      rw [hkp] at this
      subst this
      rfl
    · rw [h]
      exact (order_perm ks).mem_iff.mp (List.getElem_mem hp')
  · rw [List.getElem?_eq_none (by rw [List.length_map]; omega), List.getElem?_eq_none (by rw [lsorted_len]; omega)]
def leftN (lt : Nat → Nat → Bool) (A B : Nat) (as bs : List Nat) : Nat := if lt B A = true then (as.filter fun a => lt B a).length else (bs.filter fun b => !lt b A).length
theorem last_max {lt : Nat → Nat → Bool} (W : WO lt) {A : Nat} : ∀ {l : List Nat}, l.Pairwise (fun i j => lt j i = false) → l.getLast? = some A → ∀ a ∈ l, lt A a = false
  | [], _, h, _, _ => by simp at h
  | [x], _, h, a, ha => by
    simp at h ha
    subst h ha
    exact W.irr _
  | x :: y :: l, hp, h, a, ha => by
    obtain ⟨h1, h2⟩ := List.pairwise_cons.mp hp
    rw [List.getLast?_cons_cons] at h
    rcases List.mem_cons.mp ha with rfl | ha
    · exact h1 A (List.mem_of_getLast? h)
    · exact last_max W h2 h a ha
theorem mrg_count {lt : Nat → Nat → Bool} (W : WO lt) : ∀ (n : Nat) (as bs : List Nat) (A B : Nat), as.length + bs.length ≤ n → as.Pairwise (fun i j => lt j i = false) → bs.Pairwise (fun i j => lt j i = false) → as.getLast? = some A → bs.getLast? = some B →
    (mrg lt as bs).2 + leftN lt A B as bs = as.length + bs.length
  | _, [], _, _, _, _, _, _, h, _ => by simp at h
  | _, _ :: _, [], _, _, _, _, _, _, h => by simp at h
  | 0, _ :: _, _ :: _, _, _, h, _, _, _, _ => by simp at h
  | n + 1, a :: as, b :: bs, A, B, h, ha, hb, hA, hB => by
    have mA := last_max W ha hA
    have mB := last_max W hb hB
    obtain ⟨ha1, ha2⟩ := List.pairwise_cons.mp ha
    obtain ⟨hb1, hb2⟩ := List.pairwise_cons.mp hb
    rw [mrg_cons]
    simp only [List.length_cons] at h
    cases e : lt b a with
    | true =>
      rw [if_pos rfl]
      have bA : lt b A = true := by
        rcases W.neg A e with h | h
        · exact h
        · rw [mA a List.mem_cons_self] at h
          cases h
      cases bs with
      | nil =>
        simp at hB
        subst hB
        rw [mrg_end]
        unfold leftN
        rw [if_pos bA, List.filter_eq_self.mpr fun x hx => ?_]
        · simp <;> omega
        · rcases List.mem_cons.mp hx with rfl | hx
          · exact e
          · rcases W.neg x e with h | h
            · exact h
            · rw [ha1 x hx] at h
              cases h
      | cons b2 bs =>
        have ih := mrg_count W n (a :: as) (b2 :: bs) A B (by simp at h ⊢; omega) ha hb2 hA (by rw [List.getLast?_cons_cons] at hB; exact hB)
        have el : leftN lt A B (a :: as) (b :: b2 :: bs) = leftN lt A B (a :: as) (b2 :: bs) := by
          unfold leftN
          split
          · rfl
          · rw [List.filter_cons_of_neg (a := b) (by rw [bA]; simp)]
        rw [el]
        simp only [List.length_cons] at ih ⊢
        omega
    | false =>
      rw [if_neg Bool.false_ne_true]
      have Ba : lt B a = false := by
        cases e2 : lt B a with
        | false => rfl
        | true =>
          rcases W.neg b e2 with h | h
          · rw [mB b List.mem_cons_self] at h
            cases h
          · rw [e] at h
            cases h
      cases as with
      | nil =>
        simp at hA
        subst hA
        rw [mrg_nil]
        unfold leftN
        rw [if_neg (by rw [Ba]; exact Bool.false_ne_true), List.filter_eq_self.mpr fun x hx => ?_]
        · simp <;> omega
        · have : lt x a = false := by
            rcases List.mem_cons.mp hx with rfl | hx
            · exact e
            · cases e2 : lt x a with
              | false => rfl
              | true =>
                rcases W.neg b e2 with h | h
                · rw [hb1 x hx] at h
                  cases h
                · rw [e] at h
                  cases h
          rw [this]
          rfl
      | cons a2 as =>
        have ih := mrg_count W n (a2 :: as) (b :: bs) A B (by simp at h ⊢; omega) ha2 hb (by rw [List.getLast?_cons_cons] at hA; exact hA) hB
        have el : leftN lt A B (a :: a2 :: as) (b :: bs) = leftN lt A B (a2 :: as) (b :: bs) := by
          unfold leftN
          split
          · rw [List.filter_cons_of_neg (a := a) (by rw [Ba]; simp)]
          · rfl
        rw [el]
        simp only [List.length_cons] at ih ⊢
        omega
theorem maxD_ge (x : D) (xs : List D) : ∀ y ∈ x :: xs, dl (PySem.W.maxD x xs) y = false := by
  have key : ∀ (l : List D) (a : D), dl (l.foldl (fun a y => if PySem.W.dataLt a y then y else a) a) a = false ∧ ∀ y ∈ l, dl (l.foldl (fun a y => if PySem.W.dataLt a y then y else a) a) y = false := by
    intro l
    induction l with
    | nil => intro a; exact ⟨lt_irr a, fun y hy => by simp at hy⟩
    | cons z l ih =>
      intro a
      rw [List.foldl_cons]
      cases e : PySem.W.dataLt a z with
      | true =>
        rw [if_pos rfl]
        obtain ⟨h1, h2⟩ := ih z
        refine ⟨?_, fun y hy => ?_⟩
        · cases e2 : dl (l.foldl (fun a y => if PySem.W.dataLt a y then y else a) z) a with
          | false => rfl
          | true =>
            rw [dl_trans e2 e] at h1
            cases h1
        · rcases List.mem_cons.mp hy with rfl | hy
          · exact h1
          · exact h2 y hy
      | false =>
        rw [if_neg Bool.false_ne_true]
        obtain ⟨h1, h2⟩ := ih a
        refine ⟨h1, fun y hy => ?_⟩
        rcases List.mem_cons.mp hy with rfl | hy
        · cases e2 : dl (l.foldl (fun a y => if PySem.W.dataLt a y then y else a) a) y with
          | false => rfl
          | true =>
            rcases dl_neg a e2 with h | h
            · rw [h1] at h
              cases h
            · rw [show dl a y = false from e] at h
              cases h
        · exact h2 y hy
  intro y hy
  rcases List.mem_cons.mp hy with rfl | hy
  · exact (key xs y).1
  · exact (key xs x).2 y hy
theorem bigK_ge {l : List D} : ∀ y ∈ l, dl (bigK l) y = false := by
  cases l with
  | nil => intro y hy; simp at hy
  | cons x xs => exact maxD_ge x xs
theorem cmpF_big (k : Nat) {ks : List D} (h : ¬ ks.length < 2) : cmpF (k + 1) ks = cmpF k (ks.take (ks.length / 2)) + cmpF k (ks.drop (ks.length / 2)) + (ks.length : Int) -
    ((if dl (bigK (ks.drop (ks.length / 2))) (bigK (ks.take (ks.length / 2))) = true then ((ks.take (ks.length / 2)).filter fun d => dl (bigK (ks.drop (ks.length / 2))) d).length else ((ks.drop (ks.length / 2)).filter fun d => !dl d (bigK (ks.take (ks.length / 2)))).length : Nat) : Int) := by
  show (if _ then _ else _) = _
  rw [if_neg h]
  rfl
theorem big_last {ks : List D} {l : List Nat} {ps : List Nat} {A : Nat} (hp : l.Perm ps) (hs : l.Pairwise (fun i j => ltK ks j i = false)) (hA : l.getLast? = some A) (hne : ps ≠ []) : PySem.W.keyToks (keyAt ks A) = PySem.W.keyToks (bigK (ps.map (keyAt ks))) := by
  have h1 : dl (bigK (ps.map (keyAt ks))) (keyAt ks A) = false := bigK_ge _ (List.mem_map.mpr ⟨A, hp.mem_iff.mp (List.mem_of_getLast? hA), rfl⟩)
  obtain ⟨i, hi, e⟩ := List.mem_map.mp (bigK_mem (l := ps.map (keyAt ks)) (by simpa using hne))
  have h2 : dl (keyAt ks A) (bigK (ps.map (keyAt ks))) = false := by
    rw [← e]
    exact last_max (wo_K ks) hs hA i (hp.mem_iff.mpr hi)
  exact dl_total h2 h1
theorem filt_perm {ks : List D} {l ps : List Nat} (hp : l.Perm ps) (q : D → Bool) : (l.filter fun i => q (keyAt ks i)).length = ((ps.map (keyAt ks)).filter q).length := by
  rw [List.filter_map, List.length_map]
  exact (hp.filter _).length_eq
theorem srt_cmp {ks : List D} : ∀ (k : Nat) (ps : List Nat), ps.Pairwise (· < ·) → ps.length ≤ k + 1 → ((srt (ltK ks) k ps).2 : Int) = cmpF k (ps.map (keyAt ks))
  | 0, ps, _, _ => rfl
  | k + 1, ps, hp, hl => by
    by_cases h2 : ps.length < 2
    · have e1 : srt (ltK ks) (k + 1) ps = (ps, 0) := by
        unfold srt
        rw [if_pos h2]
      have e2 : cmpF (k + 1) (ps.map (keyAt ks)) = 0 := by
        show (if _ then _ else _) = _
        rw [if_pos (by rw [List.length_map]; exact h2)]
      rw [e1, e2]
      rfl
    have hpf := hp.sublist (List.take_sublist (ps.length / 2) ps)
    have hpo := hp.sublist (List.drop_sublist (ps.length / 2) ps)
    have lf : (ps.take (ps.length / 2)).length = ps.length / 2 := by rw [List.length_take]; omega
    have lo : (ps.drop (ps.length / 2)).length = ps.length - ps.length / 2 := by rw [List.length_drop]
    have i1 := srt_cmp (ks := ks) k _ hpf (by omega)
    have i2 := srt_cmp (ks := ks) k _ hpo (by omega)
    have q1 := srt_perm (ltK ks) k (ps.take (ps.length / 2))
    have q2 := srt_perm (ltK ks) k (ps.drop (ps.length / 2))
    have s1 := (srt_sorted (wo_K ks) k _ hpf (by omega)).imp fun {a b} (h : Rs (ltK ks) a b) => h.1
    have s2 := (srt_sorted (wo_K ks) k _ hpo (by omega)).imp fun {a b} (h : Rs (ltK ks) a b) => h.1
    have nf : ps.take (ps.length / 2) ≠ [] := fun z => by rw [z] at lf; simp at lf; omega
    have no : ps.drop (ps.length / 2) ≠ [] := fun z => by rw [z] at lo; simp at lo; omega
    obtain ⟨A, hA⟩ : ∃ A, (srt (ltK ks) k (ps.take (ps.length / 2))).1.getLast? = some A := by
      cases e : (srt (ltK ks) k (ps.take (ps.length / 2))).1.getLast? with
      | some A => exact ⟨A, rfl⟩
      | none =>
        rw [List.getLast?_eq_none_iff] at e
        rw [e] at q1
        exact absurd q1.symm.eq_nil nf
    obtain ⟨B, hB⟩ : ∃ B, (srt (ltK ks) k (ps.drop (ps.length / 2))).1.getLast? = some B := by
      cases e : (srt (ltK ks) k (ps.drop (ps.length / 2))).1.getLast? with
      | some A => exact ⟨A, rfl⟩
      | none =>
        rw [List.getLast?_eq_none_iff] at e
        rw [e] at q2
        exact absurd q2.symm.eq_nil no
    have mc := mrg_count (wo_K ks) _ _ _ A B (Nat.le_refl _) s1 s2 hA hB
    rw [q1.length_eq, q2.length_eq, lf, lo] at mc
    have bA := big_last q1 s1 hA nf
    have bB := big_last q2 s2 hB no
    have el : leftN (ltK ks) A B (srt (ltK ks) k (ps.take (ps.length / 2))).1 (srt (ltK ks) k (ps.drop (ps.length / 2))).1 = if dl (bigK ((ps.drop (ps.length / 2)).map (keyAt ks))) (bigK ((ps.take (ps.length / 2)).map (keyAt ks))) = true then (((ps.take (ps.length / 2)).map (keyAt ks)).filter fun d => dl (bigK ((ps.drop (ps.length / 2)).map (keyAt ks))) d).length else (((ps.drop (ps.length / 2)).map (keyAt ks)).filter fun d => !dl d (bigK ((ps.take (ps.length / 2)).map (keyAt ks)))).length := by
      rw [← filt_perm q1, ← filt_perm q2]
      unfold leftN
      have c1 : ltK ks B A = dl (bigK ((ps.drop (ps.length / 2)).map (keyAt ks))) (bigK ((ps.take (ps.length / 2)).map (keyAt ks))) := by
        rw [← dl_l bB, ← dl_r bA]
        rfl
      have c2 : ∀ i, ltK ks B i = dl (bigK ((ps.drop (ps.length / 2)).map (keyAt ks))) (keyAt ks i) := fun i => by
        rw [← dl_l bB]
        rfl
      have c3 : ∀ i, ltK ks i A = dl (keyAt ks i) (bigK ((ps.take (ps.length / 2)).map (keyAt ks))) := fun i => by
        rw [← dl_r bA]
        rfl
      simp only [c1, c2, c3]
    have es : (srt (ltK ks) (k + 1) ps).2 = (srt (ltK ks) k (ps.take (ps.length / 2))).2 + (srt (ltK ks) k (ps.drop (ps.length / 2))).2 + (mrg (ltK ks) (srt (ltK ks) k (ps.take (ps.length / 2))).1 (srt (ltK ks) k (ps.drop (ps.length / 2))).1).2 := by
      conv => lhs; unfold srt
      rw [if_neg h2]
    rw [es, cmpF_big k (by rw [List.length_map]; exact h2), List.length_map, ← List.map_take, ← List.map_drop, ← el, ← i1, ← i2]
    omega
theorem count_cmp {ks : List D} (g : GoodKeys ks) (h63 : ks.length ≤ 63) : ((countOf ks : Nat) : Int) = cmpF 64 ks := by
  have := srt_cmp (ks := ks) 64 (List.range ks.length) List.pairwise_lt_range (by rw [List.length_range]; omega)
  rw [← keys_range ks] at this
  exact this
theorem lift_half : ∀ n, n < 64 → 2 ≤ n → lift (n - n / 2) + 1 ≤ lift n ∧ lift (n / 2) + 1 ≤ lift n := by decide +kernel
theorem cmp_all : ∀ (k : Nat) (ks : List D), ks.length < 64 → leastF k (ks.length : Int) ≤ cmpF k ks ∧ cmpF k ks ≤ (ks.length : Int) * (lift ks.length : Nat)
  | 0, ks, _ => ⟨Int.le_refl _, Int.mul_nonneg (by omega) (by omega)⟩
  | k + 1, ks, h => by
    by_cases h2 : ks.length < 2
    · have e2 : cmpF (k + 1) ks = 0 := by
        show (if _ then _ else _) = _
        rw [if_pos h2]
      have e1 : leastF (k + 1) (ks.length : Int) = 0 := by
        show (if _ then _ else _) = _
        rw [if_pos (by omega)]
      rw [e1, e2]
      exact ⟨Int.le_refl _, Int.mul_nonneg (by omega) (by omega)⟩
    have lf : (ks.take (ks.length / 2)).length = ks.length / 2 := by rw [List.length_take]; omega
    have lo : (ks.drop (ks.length / 2)).length = ks.length - ks.length / 2 := by rw [List.length_drop]
    have nf : ks.take (ks.length / 2) ≠ [] := fun z => by rw [z] at lf; simp at lf; omega
    have no : ks.drop (ks.length / 2) ≠ [] := fun z => by rw [z] at lo; simp at lo; omega
    obtain ⟨a1, a2⟩ := cmp_all k (ks.take (ks.length / 2)) (by omega)
    obtain ⟨b1, b2⟩ := cmp_all k (ks.drop (ks.length / 2)) (by omega)
    rw [lf] at a1 a2
    rw [lo] at b1 b2
    rw [cmpF_big k h2]
    have el : leastF (k + 1) (ks.length : Int) = ((ks.length / 2 : Nat) : Int) + leastF k ((ks.length / 2 : Nat) : Int) + leastF k ((ks.length - ks.length / 2 : Nat) : Int) := by
      have e1 : ((ks.length - ks.length / 2 : Nat) : Int) = (ks.length : Int) - (ks.length : Int) / 2 := by omega
      have e2 : ((ks.length / 2 : Nat) : Int) = (ks.length : Int) / 2 := by omega
      rw [e1, e2]
      show (if (ks.length : Int) < 2 then _ else _) = _
      rw [if_neg (by omega)]
    have left : ∀ L : Nat, L = (if dl (bigK (ks.drop (ks.length / 2))) (bigK (ks.take (ks.length / 2))) = true then ((ks.take (ks.length / 2)).filter fun d => dl (bigK (ks.drop (ks.length / 2))) d).length else ((ks.drop (ks.length / 2)).filter fun d => !dl d (bigK (ks.take (ks.length / 2)))).length) → 1 ≤ L ∧ L ≤ ks.length - ks.length / 2 := by
      intro L hL
      cases e : dl (bigK (ks.drop (ks.length / 2))) (bigK (ks.take (ks.length / 2))) with
      | true =>
        rw [e, if_pos rfl] at hL
        have h3 := List.length_filter_le (fun d => dl (bigK (ks.drop (ks.length / 2))) d) (ks.take (ks.length / 2))
        have h4 : 0 < ((ks.take (ks.length / 2)).filter fun d => dl (bigK (ks.drop (ks.length / 2))) d).length := List.length_pos_of_mem (List.mem_filter.mpr ⟨bigK_mem nf, e⟩)
        omega
      | false =>
        rw [e, if_neg Bool.false_ne_true] at hL
        have h3 := List.length_filter_le (fun d => !dl d (bigK (ks.take (ks.length / 2)))) (ks.drop (ks.length / 2))
        have h4 : 0 < ((ks.drop (ks.length / 2)).filter fun d => !dl d (bigK (ks.take (ks.length / 2)))).length := List.length_pos_of_mem (List.mem_filter.mpr ⟨bigK_mem no, show (!dl (bigK (ks.drop (ks.length / 2))) (bigK (ks.take (ks.length / 2)))) = true by rw [e]; rfl⟩)
        omega
    obtain ⟨l1, l2⟩ := left _ rfl
    generalize (if dl (bigK (ks.drop (ks.length / 2))) (bigK (ks.take (ks.length / 2))) = true then ((ks.take (ks.length / 2)).filter fun d => dl (bigK (ks.drop (ks.length / 2))) d).length else ((ks.drop (ks.length / 2)).filter fun d => !dl d (bigK (ks.take (ks.length / 2)))).length) = L at l1 l2 ⊢
    obtain ⟨m1, m2⟩ := lift_half ks.length h (by omega)
    rw [el]
    refine ⟨by omega, ?_⟩
    generalize hp : ks.length / 2 = p at *
    generalize hq : ks.length - p = q at *
    have hn : (ks.length : Int) = (p : Int) + (q : Int) := by omega
    have t1 : (p : Int) * (lift p : Nat) ≤ (p : Int) * ((lift ks.length : Nat) - 1) := Int.mul_le_mul_of_nonneg_left (by omega) (by omega)
    have t2 : (q : Int) * (lift q : Nat) ≤ (q : Int) * ((lift ks.length : Nat) - 1) := Int.mul_le_mul_of_nonneg_left (by omega) (by omega)
    have t3 : (ks.length : Int) * (lift ks.length : Nat) = (p : Int) * ((lift ks.length : Nat) - 1) + (q : Int) * ((lift ks.length : Nat) - 1) + (p : Int) + (q : Int) := by
      rw [hn, Int.mul_sub, Int.mul_sub, Int.add_mul, Int.mul_one, Int.mul_one]
      omega
    omega
theorem cmp_bounds {ks : List D} (g : GoodKeys ks) (h : ks.length < 64) : leastF 64 (ks.length : Int) ≤ cmpF 64 ks ∧ cmpF 64 ks ≤ (ks.length : Int) * (lift ks.length : Nat) := cmp_all 64 ks h
theorem lsorted_mem {rs ks : List D} {d : D} (h : d ∈ lsorted rs ks) : d = .none ∨ d ∈ rs := by
  have key : ∀ (l : List Nat) (o : List D), (∀ k ∈ l, k < rs.length) → (∀ d ∈ o, d = .none ∨ d ∈ rs) → ∀ d ∈ l.foldl (fun out k => out.set (lessAt ks k) (rs.getD k .none)) o, d = .none ∨ d ∈ rs := by
    intro l
    induction l with
    | nil => intro o _ ho d hd; exact ho d hd
    | cons k l ih =>
      intro o hl ho d hd
      refine ih _ (fun k' hk' => hl k' (List.mem_cons_of_mem _ hk')) (fun d' hd' => ?_) d hd
      rcases List.mem_or_eq_of_mem_set hd' with hd' | rfl
      · exact ho d' hd'
      · exact .inr (keyAt_mem (ks := rs) (hl k List.mem_cons_self))
  refine key _ _ (fun k hk => List.mem_range.mp hk) (fun d hd => ?_) d h
  obtain ⟨_, _, rfl⟩ := List.mem_map.mp hd
  exact .inl rfl
theorem lsorted_ok {rs ks : List D} (hr : ∀ d ∈ rs, RowOk d) : ∀ d ∈ lsorted rs ks, RowOk d := fun d hd => by
  rcases lsorted_mem hd with rfl | h
  · simp [RowOk, PyData.depth, smallD, PyData.plain]
  · exact hr d h
theorem rows_same {l : List D} (hl : l.length ≤ 1000) (h : ∀ d ∈ l, RowOk d) : (PyData.plain (.list l) = true) ∧ PyData.depth (.list l) ≤ 2 ∧ smallD (.list l) = true := by
  refine ⟨?_, ?_, ?_⟩
  · simp only [PyData.plain]
    exact plainAll_of fun d hd => (h d hd).2.2
  · simp only [PyData.depth]
    have := depthAll_le (n := 1) fun d hd => (h d hd).1
    omega
  · simp only [smallD, Bool.and_eq_true, decide_eq_true_eq]
    exact ⟨hl, smallAll_of fun d hd => (h d hd).2.1⟩
theorem rp_law_good (as : List SD) (Q : RS → List SD → Prop) (h : sp_law_good as Q) : rd_law_good 20 64 64 { nx := fun δ => Q (.dt .none) (outs as δ), rt := fun d δ => Q d (outs as δ) } (startD 3 as) := by
  obtain ⟨rs, ks, c, rfl, hl, h63, gk, hr, hc, q⟩ := h
  show rd_law_good 20 64 64 _ [.dt (.tuple [.list (lsorted rs ks), .int c]), .dt (.list rs), .dt (.list ks)]
  obtain ⟨b1, b2⟩ := cmp_bounds gk (by omega)
  obtain ⟨s1, s2, s3⟩ := rows_same (by rw [lsorted_len]; omega) (lsorted_ok (ks := ks) hr)
  unfold rd_law_good
  repeat (walk_at "w"; first | refine ite_F ?_ | refine st_ixT rfl ?_)
  walk_at "w"
  refine call_ok (by simp [bors]) (by simp [bors]) fun Q2 hQ => ⟨rs, ks, rfl, hl, by omega, gk, hQ _ _ rfl ?_⟩
  walk_at "s"
  walk_at "w"
  refine call_ok (by simp [bors]) (by simp [bors]) fun Q2 hQ => ⟨_, rfl, s1, by omega, s3, hQ _ _ rfl ?_⟩
  walk_at "s"
  repeat (walk_at "w"; first | refine ite_F ?_ | refine st_ixT rfl ?_)
  walk_at "w"
  refine call_ok (by simp [bors]) (by simp [bors]) fun Q2 hQ => ⟨ks, rfl, by omega, by omega, gk, hQ _ _ rfl ?_⟩
  walk_at "s"
  walk_at "w"
  refine ite_b (fun h => ?_) (fun h => ?_)
  · simp [hc] at h
  walk_at "w"
  refine call_ok (by simp [bors]) (by simp [bors]) fun Q2 hQ => ⟨rs.length, rfl, by omega, hQ _ _ rfl ?_⟩
  walk_at "s"
  walk_at "w"
  refine st_ixT rfl ?_
  walk_at "w"
  refine ite_dec (fun h => ?_) (fun h => ?_)
  · walk_at "w"
    refine call_ok (by simp [bors]) (by simp [bors]) fun Q2 hQ => ⟨rs.length, rfl, by omega, hQ _ _ rfl ?_⟩
    walk_at "s"
    walk_at "w"
    refine st_mulL ⟨by omega, by omega⟩ ?_
    walk_at "w"
    walk_at "o"
    rw [decide_eq_true (by rw [hc, hl]; exact b2)]
    exact q
  · exact absurd (by rw [hc, hl]; exact b1) h
theorem pe_callK0 {X : Cx} {CX : CXT} {k : Nat} {f : Addr} {fd : FuncData} {ps ks : List Str} {sp : Sp} {E : XK} {x : Str} {p pos : Pos} {kws : List Keyword} {tk : TA} {g : List Value → List Value → List Value} {gV : List V → List V → List V}
    (F : FnOk X.prog X.w X.K X.mg X.base CX k f fd ps sp) (hr : Room k X.A) (hg : Gl X x) (hm : X.mg x = some (.ref f)) (hk : PySem.W.keepIn X.K (.ref f) = true) (hb : KBinds X.K fd ps ks g gV) (hx : Passes CX X E) (hkw : PK X kws tk)
    (hall : (backToKw pos (keywordEach kws X.env)).all (·.1.isSome) = true := by rfl) (hks : (backToKw pos (keywordEach kws X.env)).filterMap (·.1) = ks := by rfl) (hdb : (x == ("__debug__" : Str)) = false := by decide)
    (hpl : ((backTo pos (starEach [] X.env)).any (·.1) || (backToKw pos (keywordEach kws X.env)).any (·.1.isNone)) = false := by rfl) : PE X (.Call (.Name x p) [] kws pos) (tCallK sp gV E tNil tk) := by
  refine ⟨fun pins s σ H Q I h => ?_⟩
  refine wpAny_Call_Name_kw (ld_glob I hg hm ?_ hdb)
  refine PySem.W.callWith_KW0 (h₀ := X.base) I.ok.mod.kin hk hall (thn (hkw.run pos pins s σ H _ I h) fun ws s2 ⟨zs, H2, I2, rz, q2⟩ => ⟨I2.kIn, ?_⟩) hpl
  rw [hks]
  exact run_fnk F hr hb hx I2 .nil rz q2
def swapG {α : Type} : List α → List α → List α
  | [], [a, b] => [b, a]
  | _, _ => []
theorem kb_sorted_counted {K : PySem.W.Frag} {f : Addr} {fd : FuncData} (F : Fun K "sorted_counted" "sorted_counted" s_sorted_counted f fd) : KBinds K fd ["rows", "ranks"] ["ranks", "rows"] swapG swapG where
  to := fun s us ws _ hl => by
    obtain ⟨oc, od, kV, doc, pm, an, cdv, ct, osl, rfl, lk, hcd⟩ := F.ex
    match us, ws, hl with
    | [], [a, b], _ => exact .of_eq rfl
    | [], [], h => simp [swapG] at h
    | [], [_], h => simp [swapG] at h
    | [], _ :: _ :: _ :: _, h => simp [swapG] at h
    | _ :: _, _, h => simp [swapG] at h
  rel := fun r rz => by
    cases r with
    | nil =>
      cases rz with
      | nil => exact .nil
      | cons r1 t1 =>
        cases t1 with
        | nil => exact .nil
        | cons r2 t2 =>
          cases t2 with
          | nil => exact .cons r2 (.cons r1 .nil)
          | cons _ _ => exact .nil
    | cons _ _ => exact .nil
theorem dp_pick {K : PySem.W.Frag} {G : Hp} {xs : List V} {rs : List D} (h : DpAll K G xs rs) : ∀ {os : List Nat}, (∀ i ∈ os, i < rs.length) → DpAll K G (pickV xs os) (os.map (keyAt rs))
  | [], _ => .nil
  | i :: os, ho => by
    refine .cons ?_ (dp_pick h fun j hj => ho j (List.mem_cons_of_mem _ hj))
    obtain ⟨v, hv, r⟩ := dpAll_get h (keyAt_get (ks := rs) (ho i List.mem_cons_self))
    show Dp K G (xs.getD i .non) _
    rw [List.getD_eq_getElem?_getD, hv]
    exact r
theorem keys_same {ks : List D} (g : GoodKeys ks) (h : ks.length ≤ 1000) : PyData.plain (.list ks) = true ∧ PyData.depth (.list ks) < 20 ∧ smallD (.list ks) = true := by
  refine ⟨?_, ?_, ?_⟩
  · simp only [PyData.plain]
    exact plainAll_of g.2.2.2.2
  · simp only [PyData.depth]
    have := depthAll_le (n := 10) g.2.2.1
    omega
  · simp only [smallD, Bool.and_eq_true, decide_eq_true_eq]
    exact ⟨h, smallAll_of g.2.2.2.1⟩
section
variable {P : Program} {w : World} {K : PySem.W.Frag} {mg : Str → Option Value} {base : Heap}
theorem ok_law_one {k : Nat} (Y : Fs K mg) (T : Bt mg) {k1 : Nat} (hk1 : k1 ≤ k) (G1 : FnOk P w K mg base CX0 k1 Y.a_sorted_counted Y.d_sorted_counted ["rows", "ranks"] (spSC K))
    {k2 : Nat} (hk2 : k2 ≤ k) (G2 : FnOk P w K mg base CX0 k2 Y.a_law_good Y.d_law_good ["_law_told", "_law_rows", "_law_ranks"] (spOf K sp_law_good))
    {k3 : Nat} (hk3 : k3 ≤ k) (G3 : FnOk P w K mg base CX0 k3 Y.a_law_same Y.d_law_same ["_law_one_here", "_law_other"] (spOf K (sp_law_same 20))) :
    FnOk P w K mg base CX0 (k + 1) Y.a_law_one Y.d_law_one ["_law_rows", "_law_ranks"] (spOf K sp_law_one) := by
  refine Y.F_law_one.ok sc_law_one (fun vs H Q E h => ?_) (fun cdv A outer s H vs Q E hr h => ?_)
  · obtain ⟨Hs, as, fps, hl, _, _, rs, ks, rfl, _⟩ := h
    exact hl
  obtain ⟨Hs, as, fps, hl, hx, F1, rs, ks, rfl, hrk, h63, gk, hrs, q0⟩ := h
  refine ⟨_, pss_cons (JS.p (by exact js_set (i := 2) sc_law_one.nd (je_new (jn_callTy cn_list rfl T.b_list (by decide +kernel) (ja_cons (je_var 0) ja_nil)))))
    (pss_cons (JS.p (by exact js_set (i := 3) sc_law_one.nd (je_new (jn_callTy cn_list rfl T.b_list (by decide +kernel) (ja_cons (je_var 1) ja_nil)))))
    (pss_cons (ps_set (i := 4) sc_law_one.nd rfl (.inl rfl) (pe_call G1 (hr.mono hk1) rfl Y.m_sorted_counted Y.F_sorted_counted.kp Y.b_sorted_counted .nil pass0 (pa_cons (pv 2) (pa_cons (pv 3) pa_nil))))
    (pss_cons (ps_if (JT.p (by exact JW.jt (jw_or (jt_not (jt_val (je_call G2 (hr.mono hk2) Y.m_law_good Y.F_law_good.kp Y.b_law_good (jc_cons (je_var 4) (jc_cons (je_var 0) (jc_cons (je_var 1) jc_nil))))))
        (jw_or (jt_not (jt_val (je_call G3 (hr.mono hk3) Y.m_law_same Y.F_law_same.kp Y.b_law_same (jc_cons (je_var 2) (jc_cons (je_new (jn_callTy cn_list rfl T.b_list (by decide +kernel) (ja_cons (je_var 0) ja_nil))) jc_nil)))))
        (jw_or1 (jt_not (jt_val (je_call G3 (hr.mono hk3) Y.m_law_same Y.F_law_same.kp Y.b_law_same (jc_cons (je_var 3) (jc_cons (je_new (jn_callTy cn_list rfl T.b_list (by decide +kernel) (ja_cons (je_var 1) ja_nil))) jc_nil)))))))))) (pss_one (ps_ret pe_bl)) pss_nil)
    (pss_cons (ps_expr (pe_bm PySem.F.plainAttrs_list PySem.F.slot_list_append PySem.F.type_list_append mt_append (JE.p (by exact je_ix (je_var 4) je_int)) (pa_cons pe_str pa_nil)))
    (pss_cons (ps_if (JT.p (by exact jt_not (jt_val (je_call G3 (hr.mono hk3) Y.m_law_same Y.F_law_same.kp Y.b_law_same (jc_cons (je_var 2) (jc_cons (je_new (jn_callTy cn_list rfl T.b_list (by decide +kernel) (ja_cons (je_var 0) ja_nil))) jc_nil)))))) (pss_one (ps_ret pe_bl)) pss_nil)
    (pss_cons (ps_set (i := 5) sc_law_one.nd rfl (.inl rfl) (pe_callK0 G1 (hr.mono hk1) rfl Y.m_sorted_counted Y.F_sorted_counted.kp (kb_sorted_counted Y.F_sorted_counted) pass0 (pk_cons (pv 3) (pk_cons (pv 2) pk_nil))))
    (pss_cons (ps_if (JT.p (by exact jt_not (jt_val (je_call G2 (hr.mono hk2) Y.m_law_good Y.F_law_good.kp Y.b_law_good (jc_cons (je_var 5) (jc_cons (je_var 0) (jc_cons (je_var 1) jc_nil))))))) (pss_one (ps_ret pe_bl)) pss_nil)
    (pss_cons (ps_if (JT.p (by exact jt_cmp (do_gt (huD hr)) (je_callB cd_len rfl T.b_len PySem.boot_len (ja_cons (je_var 2) ja_nil)) je_int))
        (pss_cons (ps_asg pe_str (pg_sub (pv 2) pe_int set_list)) (pss_one (ps_expr (pe_bm0 PySem.F.plainAttrs_list PySem.F.slot_list_reverse PySem.F.type_list_reverse mt_reverse (pv 3))))) pss_nil)
    (pss_one (ps_ret (JE.p (by exact je_call G2 (hr.mono hk2) Y.m_law_good Y.F_law_good.kp Y.b_law_good (jc_cons (je_var 5) (jc_cons (je_var 0) (jc_cons (je_var 1) jc_nil))))))))))))))), ?_⟩
  obtain ⟨v0, v1, rfl⟩ : ∃ v0 v1, vs = [v0, v1] := by
    match vs, hl with
    | [v0, v1], _ => exact ⟨v0, v1, rfl⟩
  obtain ⟨x0, e0, r0⟩ := F1.sl 0 _ rfl
  cases e0
  obtain ⟨r0, _⟩ := r0
  obtain ⟨x1, e1, r1⟩ := F1.sl 1 _ rfl
  cases e1
  obtain ⟨r1, _⟩ := r1
  cases r0 with
  | @lst a xs _ ha hxs =>
  cases r1 with
  | @lst b ys _ hb hys =>
  have lx := dpAll_len hxs
  have ly := dpAll_len hys
  have hk63 : ks.length ≤ 63 := by omega
  have done : ∀ H', Ex H H' → Q (.bl true) H' := fun H' e => q0 (.bl true) H' Hs (fun _ _ => False) (bm_ex.trans e) (Ex.refl _) (hx.trans e) (fun b h1 h2 => absurd h2 h1) (fun i s hs => .inl (by
    match i, hs with
    | 0, hs => cases hs; rfl
    | 1, hs => cases hs; rfl
    | i + 2, hs => simp at hs)) (fun _ _ _ z => z.elim) (.bl true)
  have dr : ∀ {G : Hp}, Ex H G → Dp K G (.ref a) (.list rs) := fun e => .lst ((hx.trans e).sl ha) (dpAll_mono (hx.trans e) hxs)
  have dk : ∀ {G : Hp}, Ex H G → Dp K G (.ref b) (.list ks) := fun e => .lst ((hx.trans e).sl hb) (dpAll_mono (hx.trans e) hys)
  obtain ⟨s1, s2, s3⟩ := rows_same (l := rs) (by omega) hrs
  obtain ⟨k1, k2, k3⟩ := keys_same gk (by omega)
  have dz : ∀ {G : Hp}, Ex H G → DpAll K G (pickV xs (orderOf ks)) (lsorted rs ks) := fun e => by
    rw [← order_sorted gk hrk hk63]
    exact dp_pick (dpAll_mono (hx.trans e) hxs) fun i hi => by
      have := orderOf_lt hi
      omega
  have zl : (pickV xs (orderOf ks)).length < sizeLine := by
    unfold pickV
    rw [List.length_map, orderOf_len]
    exact small1000 (by omega)
  have same1 : ∀ (G : Hp) (R : VK) (q : Addr), Ex H G → G q = some (.lst xs) → (∀ H', Ex G H' → R (.bl true) H') → ∀ p, G p = none → spOf K (sp_law_same 20) [.ref q, .ref p] (upd G p (.lst xs)) R E0 := fun G R q e hq hR p hp =>
    fz_yes (ds := [.list rs, .list rs]) (.cons (.lst (sql (Ex.new hp _ _ hq)) (dpAll_mono (hx.trans (e.trans (Ex.new hp))) hxs)) (.cons (.lst (sql upd_same) (dpAll_mono (hx.trans (e.trans (Ex.new hp))) hxs)) .nil)) (fun Q2 hQ => ⟨.list rs, rfl, s1, by omega, s3, hQ _⟩) fun H' e' => hR H' ((Ex.new hp).trans e')
  have same2 : ∀ (G : Hp) (R : VK) (q : Addr), Ex H G → G q = some (.lst ys) → (∀ H', Ex G H' → R (.bl true) H') → ∀ p, G p = none → spOf K (sp_law_same 20) [.ref q, .ref p] (upd G p (.lst ys)) R E0 := fun G R q e hq hR p hp =>
    fz_yes (ds := [.list ks, .list ks]) (.cons (.lst (sql (Ex.new hp _ _ hq)) (dpAll_mono (hx.trans (e.trans (Ex.new hp))) hys)) (.cons (.lst (sql upd_same) (dpAll_mono (hx.trans (e.trans (Ex.new hp))) hys)) .nil)) (fun Q2 hQ => ⟨.list ks, rfl, k1, k2, k3, hQ _⟩) fun H' e' => hR H' ((Ex.new hp).trans e')
  have good1 : ∀ (G : Hp) (R : VK) (t l : Addr), Ex H G → G t = some (.tup [.ref l, .int (countOf ks : Nat)]) → G l = some (.lst (pickV xs (orderOf ks))) → (∀ H', Ex G H' → R (.bl true) H') → spOf K sp_law_good [.ref t, .ref a, .ref b] G R E0 := fun G R t l e ht hl hR =>
    fz_yes (ds := [.tuple [.list (lsorted rs ks), .int (countOf ks : Nat)], .list rs, .list ks]) (.cons (.tup (sqt ht) (.cons (.lst (sql hl) (dz e)) (.cons (.int _) .nil))) (.cons (dr e) (.cons (dk e) .nil))) (fun Q2 hQ => ⟨rs, ks, _, rfl, hrk, h63, gk, hrs, count_cmp gk hk63, hQ _⟩) hR
  refine ⟨.ref a, rfl, a, xs, rfl, .inl (hx.sl ha), fun p1 hp1 => ?_⟩
  refine ⟨.ref b, rfl, b, ys, rfl, .inl ((hx.trans (Ex.new hp1)).sl hb), fun p2 hp2 => ?_⟩
  have n0 : H p2 = none := (Ex.new hp1).none hp2
  have e2 : Ex (upd H p1 (.lst xs)) (upd (upd H p1 (.lst xs)) p2 (.lst ys)) := Ex.new hp2
  have e02 : Ex H (upd (upd H p1 (.lst xs)) p2 (.lst ys)) := (Ex.new hp1).trans e2
  have a2 : (upd (upd H p1 (.lst xs)) p2 (.lst ys)) p1 = some (.lst xs) := e2 _ _ upd_same
  have b2 : (upd (upd H p1 (.lst xs)) p2 (.lst ys)) p2 = some (.lst ys) := upd_same
  have n12 : p2 ≠ p1 := fun z => by
    rw [z, upd_same] at hp2
    cases hp2
  clear e2 hp2
  generalize upd (upd H p1 (.lst xs)) p2 (.lst ys) = H2 at e02 a2 b2 ⊢
  refine ⟨.ref p1, rfl, .ref p2, rfl, p1, p2, xs, ks, rfl, sql a2, .lst (sql b2) (dpAll_mono (hx.trans e02) hys), by omega, by omega, gk, fun t l H3 e3 ht hl ne h3t h3l => ?_⟩
  have e03 := e02.trans e3
  have nl := e02.none hl
  refine ⟨.ref t, rfl, .ref a, rfl, .ref b, rfl, good1 H3 _ t l e03 h3t h3l fun H4 e4 => ⟨true, rfl, ite_F ?_⟩⟩
  have e04 := e03.trans e4
  refine ⟨.ref p1, rfl, .ref a, rfl, a, xs, rfl, .inl ((hx.trans e04).sl ha), fun p5 hp5 => same1 H4 _ p1 e04 ((e3.trans e4) _ _ a2) (fun H6 e6 => ⟨true, rfl, ite_F ?_⟩) p5 hp5⟩
  have e06 := e04.trans e6
  refine ⟨.ref p2, rfl, .ref b, rfl, b, ys, rfl, .inl ((hx.trans e06).sl hb), fun p7 hp7 => same2 H6 _ p2 e06 (((e3.trans e4).trans e6) _ _ b2) (fun H8 e8 => ⟨true, rfl, ite_F ?_⟩) p7 hp7⟩
  have e08 := e06.trans e8
  have e38 := (e4.trans e6).trans e8
  have h8t := e38 _ _ h3t
  have h8l := e38 _ _ h3l
  have h8a := (e3.trans e38) _ _ a2
  have h8b := (e3.trans e38) _ _ b2
  have nla : p1 ≠ l := fun z => by
    rw [← z, a2] at hl
    cases hl
  have nlb : p2 ≠ l := fun z => by
    rw [← z, b2] at hl
    cases hl
  refine ⟨.ref t, rfl, .inr (.inl ⟨t, _, 0, .ref l, rfl, rfl, sqt h8t, rfl, ?_⟩)⟩
  refine ⟨.inl ⟨rfl, _, sql h8l⟩, l, _, .str "spoilt", rfl, rfl, h8l, zl, ?_⟩
  have e09 : Ex H (upd H8 l (.lst (pickV xs (orderOf ks) ++ [.str "spoilt"]))) := ex_upd e08 nl
  have h9a : (upd H8 l (.lst (pickV xs (orderOf ks) ++ [.str "spoilt"]))) p1 = some (.lst xs) := by rw [upd_ne nla]; exact h8a
  have h9b : (upd H8 l (.lst (pickV xs (orderOf ks) ++ [.str "spoilt"]))) p2 = some (.lst ys) := by rw [upd_ne nlb]; exact h8b
  generalize upd H8 l (.lst (pickV xs (orderOf ks) ++ [.str "spoilt"])) = H9 at e09 h9a h9b ⊢
  refine ⟨.ref p1, rfl, .ref a, rfl, a, xs, rfl, .inl ((hx.trans e09).sl ha), fun p10 hp10 => same1 H9 _ p1 e09 h9a (fun H11 e11 => ⟨true, rfl, ite_F ?_⟩) p10 hp10⟩
  have e011 := e09.trans e11
  have h11a := e11 _ _ h9a
  have h11b := e11 _ _ h9b
  refine ⟨.ref p2, rfl, .ref p1, rfl, p1, p2, xs, ks, rfl, sql h11a, .lst (sql h11b) (dpAll_mono (hx.trans e011) hys), by omega, by omega, gk, fun t2 l2 H12 e12 ht2 hl2 ne2 h12t h12l => ?_⟩
  have e012 := e011.trans e12
  refine ⟨.ref t2, rfl, .ref a, rfl, .ref b, rfl, good1 H12 _ t2 l2 e012 h12t h12l fun H13 e13 => ⟨true, rfl, ite_F ?_⟩⟩
  have e013 := e012.trans e13
  have h13t := e13 _ _ h12t
  have h13l := e13 _ _ h12l
  have h13a := (e12.trans e13) _ _ h11a
  have h13b := (e12.trans e13) _ _ h11b
  have fin : ∀ G, Ex H G → G t2 = some (.tup [.ref l2, .int (countOf ks : Nat)]) → G l2 = some (.lst (pickV xs (orderOf ks))) → spOf K sp_law_good [.ref t2, .ref a, .ref b] G Q E0 := fun G e h1 h2 => good1 G Q t2 l2 e h1 h2 fun H' e' => done H' (e.trans e')
  refine ⟨.ref p1, rfl, .ref p1, xs.length, rfl, .inl ⟨xs, sql h13a, rfl⟩, .int (xs.length : Int), .int 0, .int _, .int _, by simp [PySem.W.alike], rfl, by simp [PyData.depth], _, rfl, ite_b (fun hb' => ?_) (fun hb' => ?_)⟩
  · replace hb' : PySem.W.dataLt (.int 0) (.int (xs.length : Int)) = true := hb'
    rw [PySem.W.dataLt_int] at hb'
    have hpos := of_decide_eq_true hb'
    have ne' : ∀ {q p : Addr} {o : HO}, H11 q = none → H11 p = some o → q ≠ p := fun h1 h2 z => by
      rw [z, h2] at h1
      cases h1
    refine ⟨.ref p1, rfl, p1, xs, 0, 0, rfl, rfl, h13a, ixN_nat (k := 0) (n := xs.length) (Int.ofNat_lt.mp hpos), ?_⟩
    have h14b : (upd H13 p1 (.lst (xs.set 0 (.str "other")))) p2 = some (.lst ys) := by rw [upd_ne n12]; exact h13b
    refine ⟨.ref p2, rfl, .inl ⟨rfl, ys, sql h14b⟩, p2, ys, rfl, rfl, h14b, ?_⟩
    refine ⟨.ref t2, rfl, .ref a, rfl, .ref b, rfl, fin _ (ex_upd (ex_upd e013 hp1) n0) ?_ ?_⟩
    · rw [upd_ne (ne' ht2 h11b), upd_ne (ne' ht2 h11a)]
      exact h13t
    · rw [upd_ne (ne' hl2 h11b), upd_ne (ne' hl2 h11a)]
      exact h13l
  · exact ⟨.ref t2, rfl, .ref a, rfl, .ref b, rfl, fin _ e013 h13t h13l⟩
end
section
variable {P : Program} {w : World} {K : PySem.W.Frag} {mg : Str → Option Value} {base : Heap}
theorem ch_halves (Y : Fs K mg) (T : Bt mg) : ∀ n, FnOk P w K mg base CX0 (n + 1) Y.a_halves_sorted Y.d_halves_sorted ["ranks", "places"] (spOf K (sp_halves_sorted n))
  | 0 => fn_never fun _ _ ⟨_, _, _, _, _, _, h, _⟩ => absurd h (Nat.not_lt_zero _)
  | n + 1 => ok_halves_sorted Y T (Nat.le_refl _) (ch_halves Y T n) (Nat.succ_le_succ (Nat.zero_le n)) (ok_halves_merged (k := 0) Y T (fun _ _ ⟨_, _, _, h, _⟩ => by rw [h]; rfl) rp_halves_merged) (fun _ _ ⟨_, _, h, _⟩ => by rw [h]; rfl) (rp_halves_sorted n)
theorem ch_same (Y : Fs K mg) (T : Bt mg) : ∀ n, FnOk P w K mg base CX0 (n + 1) Y.a_law_same Y.d_law_same ["_law_one_here", "_law_other"] (spOf K (sp_law_same n))
  | 0 => fn_never fun _ _ ⟨_, _, _, h, _⟩ => absurd h (Nat.not_lt_zero _)
  | n + 1 => ok_law_same Y T (Nat.le_refl _) (ch_same Y T n) (fun _ _ ⟨_, h, _⟩ => by rw [h]; rfl) (rp_law_same n)
theorem ch_compared (Y : Fs K mg) (T : Bt mg) : ∀ n, FnOk P w K mg base CX0 (n + 1) Y.a_law_compared Y.d_law_compared ["_law_ranks"] (spOf K (sp_law_compared n))
  | 0 => fn_never fun _ _ ⟨_, _, _, h, _⟩ => absurd h (Nat.not_lt_zero _)
  | n + 1 => ok_law_compared Y T (Nat.le_refl _) (ch_compared Y T n) (fun _ _ ⟨_, h, _⟩ => by rw [h]; rfl) (rp_law_compared n)
theorem ch_least (Y : Fs K mg) (T : Bt mg) : ∀ n, FnOk P w K mg base CX0 (n + 1) Y.a_law_least Y.d_law_least ["_law_many"] (spOf K (sp_law_least n))
  | 0 => fn_never fun _ _ ⟨_, _, h, _⟩ => absurd h (Nat.not_lt_zero _)
  | n + 1 => ok_law_least Y T (Nat.le_refl _) (ch_least Y T n) (fun _ _ ⟨_, h, _⟩ => by rw [h]; rfl) (rp_law_least n)
theorem ch_pick (Y : Fs K mg) (T : Bt mg) : FnOk P w K mg base CX0 1 Y.a_law_pick Y.d_law_pick ["_law_deal_here", "_law_many"] (spOf K sp_law_pick) := ok_law_pick (k := 0) Y T (fun _ _ ⟨_, _, _, h, _⟩ => by rw [h]; rfl) rp_law_pick
theorem ch_scene (Y : Fs K mg) (T : Bt mg) : FnOk P w K mg base CX0 3 Y.a_law_scene Y.d_law_scene ["_law_deal_here"] (spOf K sp_law_scene) :=
  ok_law_scene (k := 2) Y T (by decide) (ch_pick Y T) (by decide) (ok_law_rank (k := 1) Y T (by decide) (ch_pick Y T) (fun _ _ ⟨_, _, _, h, _⟩ => by rw [h]; rfl) rp_law_rank) (by decide) (ok_law_thing (k := 1) Y T (by decide) (ch_pick Y T) (fun _ _ ⟨_, _, _, h, _⟩ => by rw [h]; rfl) rp_law_thing) (fun _ _ ⟨_, _, h, _⟩ => by rw [h]; rfl) rp_law_scene
theorem ch_good (Y : Fs K mg) (T : Bt mg) : FnOk P w K mg base CX0 66 Y.a_law_good Y.d_law_good ["_law_told", "_law_rows", "_law_ranks"] (spOf K sp_law_good) :=
  ok_law_good (k := 65) Y T (by decide) (ok_law_sorted (k := 0) Y T (fun _ _ ⟨_, _, h, _⟩ => by rw [h]; rfl) rp_law_sorted) (by decide) (ch_same Y T 20) (by decide) (ch_compared Y T 64) (by decide) (ch_least Y T 64) (by decide) (ok_law_lift (k := 0) Y T (fun _ _ ⟨_, h, _⟩ => by rw [h]; rfl) rp_law_lift) (fun _ _ ⟨_, _, _, h, _⟩ => by rw [h]; rfl) rp_law_good
theorem ch_one (Y : Fs K mg) (T : Bt mg) : FnOk P w K mg base CX0 67 Y.a_law_one Y.d_law_one ["_law_rows", "_law_ranks"] (spOf K sp_law_one) :=
  ok_law_one (k := 66) Y T (by decide) (ok_sorted_counted (k := 65) Y T (by decide) (ch_halves Y T 64)) (by decide) (ch_good Y T) (by decide) (ch_same Y T 20)
def topLevel : Nat := 68
theorem chain (Y : Fs K mg) (T : Bt mg) : FnOk P w K mg base CX0 topLevel Y.a_law Y.d_law ["_law_script"] (spOf K spLaw) :=
  ok_law (k := 67) Y T (by decide) (ok_law_deal (k := 0) Y T (fun _ _ ⟨_, h, _⟩ => by rw [h]; rfl) rp_law_deal) (by decide) (ch_scene Y T) (by decide) (ch_one Y T) (fun _ _ ⟨_, h, _⟩ => by rw [h]; rfl) rp_law
end
theorem all_mk {l : PySem.W.OpenLaw} {w : World} {K : PySem.W.Frag} {h : Heap} {mg : Str → Option Value} {fa : Addr} (X : K.In h) (G : h.Ns mainGlobals mg) (hfa : mg "law" = some (.ref fa))
    {f0 : Addr} {od0 an0 : Option Addr} {sl0 : Array (Option Value)} {oc0 kV0 dc0 pm0 cd0 ct0 : Value} (a0 : PySem.W.nsIn K mainGlobals "sorted_counted" = some (some (.ref f0))) (l0 : K.lookup f0 = some ⟨oc0, od0, .func (PySem.W.fnOf "sorted_counted" "sorted_counted" (defArgs s_sorted_counted) (defBody s_sorted_counted) (defScope s_sorted_counted) .none kV0 dc0 pm0 an0 cd0 ct0), sl0⟩) (c0 : PySem.W.codeIn K cd0 "sorted_counted" = true) (k0 : PySem.W.keepIn K (.ref f0) = true)
    {f1 : Addr} {od1 an1 : Option Addr} {sl1 : Array (Option Value)} {oc1 kV1 dc1 pm1 cd1 ct1 : Value} (a1 : PySem.W.nsIn K mainGlobals "_halves_sorted" = some (some (.ref f1))) (l1 : K.lookup f1 = some ⟨oc1, od1, .func (PySem.W.fnOf "_halves_sorted" "_halves_sorted" (defArgs s_halves_sorted) (defBody s_halves_sorted) (defScope s_halves_sorted) .none kV1 dc1 pm1 an1 cd1 ct1), sl1⟩) (c1 : PySem.W.codeIn K cd1 "_halves_sorted" = true) (k1 : PySem.W.keepIn K (.ref f1) = true)
    {f2 : Addr} {od2 an2 : Option Addr} {sl2 : Array (Option Value)} {oc2 kV2 dc2 pm2 cd2 ct2 : Value} (a2 : PySem.W.nsIn K mainGlobals "_halves_merged" = some (some (.ref f2))) (l2 : K.lookup f2 = some ⟨oc2, od2, .func (PySem.W.fnOf "_halves_merged" "_halves_merged" (defArgs s_halves_merged) (defBody s_halves_merged) (defScope s_halves_merged) .none kV2 dc2 pm2 an2 cd2 ct2), sl2⟩) (c2 : PySem.W.codeIn K cd2 "_halves_merged" = true) (k2 : PySem.W.keepIn K (.ref f2) = true)
    {f3 : Addr} {od3 an3 : Option Addr} {sl3 : Array (Option Value)} {oc3 kV3 dc3 pm3 cd3 ct3 : Value} (a3 : PySem.W.nsIn K mainGlobals "_law_deal" = some (some (.ref f3))) (l3 : K.lookup f3 = some ⟨oc3, od3, .func (PySem.W.fnOf "_law_deal" "_law_deal" (defArgs s_law_deal) (defBody s_law_deal) (defScope s_law_deal) .none kV3 dc3 pm3 an3 cd3 ct3), sl3⟩) (c3 : PySem.W.codeIn K cd3 "_law_deal" = true) (k3 : PySem.W.keepIn K (.ref f3) = true)
    {f4 : Addr} {od4 an4 : Option Addr} {sl4 : Array (Option Value)} {oc4 kV4 dc4 pm4 cd4 ct4 : Value} (a4 : PySem.W.nsIn K mainGlobals "_law_pick" = some (some (.ref f4))) (l4 : K.lookup f4 = some ⟨oc4, od4, .func (PySem.W.fnOf "_law_pick" "_law_pick" (defArgs s_law_pick) (defBody s_law_pick) (defScope s_law_pick) .none kV4 dc4 pm4 an4 cd4 ct4), sl4⟩) (c4 : PySem.W.codeIn K cd4 "_law_pick" = true) (k4 : PySem.W.keepIn K (.ref f4) = true)
    {f5 : Addr} {od5 an5 : Option Addr} {sl5 : Array (Option Value)} {oc5 kV5 dc5 pm5 cd5 ct5 : Value} (a5 : PySem.W.nsIn K mainGlobals "_law_rank" = some (some (.ref f5))) (l5 : K.lookup f5 = some ⟨oc5, od5, .func (PySem.W.fnOf "_law_rank" "_law_rank" (defArgs s_law_rank) (defBody s_law_rank) (defScope s_law_rank) .none kV5 dc5 pm5 an5 cd5 ct5), sl5⟩) (c5 : PySem.W.codeIn K cd5 "_law_rank" = true) (k5 : PySem.W.keepIn K (.ref f5) = true)
    {f6 : Addr} {od6 an6 : Option Addr} {sl6 : Array (Option Value)} {oc6 kV6 dc6 pm6 cd6 ct6 : Value} (a6 : PySem.W.nsIn K mainGlobals "_law_thing" = some (some (.ref f6))) (l6 : K.lookup f6 = some ⟨oc6, od6, .func (PySem.W.fnOf "_law_thing" "_law_thing" (defArgs s_law_thing) (defBody s_law_thing) (defScope s_law_thing) .none kV6 dc6 pm6 an6 cd6 ct6), sl6⟩) (c6 : PySem.W.codeIn K cd6 "_law_thing" = true) (k6 : PySem.W.keepIn K (.ref f6) = true)
    {f7 : Addr} {od7 an7 : Option Addr} {sl7 : Array (Option Value)} {oc7 kV7 dc7 pm7 cd7 ct7 : Value} (a7 : PySem.W.nsIn K mainGlobals "_law_scene" = some (some (.ref f7))) (l7 : K.lookup f7 = some ⟨oc7, od7, .func (PySem.W.fnOf "_law_scene" "_law_scene" (defArgs s_law_scene) (defBody s_law_scene) (defScope s_law_scene) .none kV7 dc7 pm7 an7 cd7 ct7), sl7⟩) (c7 : PySem.W.codeIn K cd7 "_law_scene" = true) (k7 : PySem.W.keepIn K (.ref f7) = true)
    {f8 : Addr} {od8 an8 : Option Addr} {sl8 : Array (Option Value)} {oc8 kV8 dc8 pm8 cd8 ct8 : Value} (a8 : PySem.W.nsIn K mainGlobals "_law_same" = some (some (.ref f8))) (l8 : K.lookup f8 = some ⟨oc8, od8, .func (PySem.W.fnOf "_law_same" "_law_same" (defArgs s_law_same) (defBody s_law_same) (defScope s_law_same) .none kV8 dc8 pm8 an8 cd8 ct8), sl8⟩) (c8 : PySem.W.codeIn K cd8 "_law_same" = true) (k8 : PySem.W.keepIn K (.ref f8) = true)
    {f9 : Addr} {od9 an9 : Option Addr} {sl9 : Array (Option Value)} {oc9 kV9 dc9 pm9 cd9 ct9 : Value} (a9 : PySem.W.nsIn K mainGlobals "_law_sorted" = some (some (.ref f9))) (l9 : K.lookup f9 = some ⟨oc9, od9, .func (PySem.W.fnOf "_law_sorted" "_law_sorted" (defArgs s_law_sorted) (defBody s_law_sorted) (defScope s_law_sorted) .none kV9 dc9 pm9 an9 cd9 ct9), sl9⟩) (c9 : PySem.W.codeIn K cd9 "_law_sorted" = true) (k9 : PySem.W.keepIn K (.ref f9) = true)
    {f10 : Addr} {od10 an10 : Option Addr} {sl10 : Array (Option Value)} {oc10 kV10 dc10 pm10 cd10 ct10 : Value} (a10 : PySem.W.nsIn K mainGlobals "_law_compared" = some (some (.ref f10))) (l10 : K.lookup f10 = some ⟨oc10, od10, .func (PySem.W.fnOf "_law_compared" "_law_compared" (defArgs s_law_compared) (defBody s_law_compared) (defScope s_law_compared) .none kV10 dc10 pm10 an10 cd10 ct10), sl10⟩) (c10 : PySem.W.codeIn K cd10 "_law_compared" = true) (k10 : PySem.W.keepIn K (.ref f10) = true)
    {f11 : Addr} {od11 an11 : Option Addr} {sl11 : Array (Option Value)} {oc11 kV11 dc11 pm11 cd11 ct11 : Value} (a11 : PySem.W.nsIn K mainGlobals "_law_least" = some (some (.ref f11))) (l11 : K.lookup f11 = some ⟨oc11, od11, .func (PySem.W.fnOf "_law_least" "_law_least" (defArgs s_law_least) (defBody s_law_least) (defScope s_law_least) .none kV11 dc11 pm11 an11 cd11 ct11), sl11⟩) (c11 : PySem.W.codeIn K cd11 "_law_least" = true) (k11 : PySem.W.keepIn K (.ref f11) = true)
    {f12 : Addr} {od12 an12 : Option Addr} {sl12 : Array (Option Value)} {oc12 kV12 dc12 pm12 cd12 ct12 : Value} (a12 : PySem.W.nsIn K mainGlobals "_law_lift" = some (some (.ref f12))) (l12 : K.lookup f12 = some ⟨oc12, od12, .func (PySem.W.fnOf "_law_lift" "_law_lift" (defArgs s_law_lift) (defBody s_law_lift) (defScope s_law_lift) .none kV12 dc12 pm12 an12 cd12 ct12), sl12⟩) (c12 : PySem.W.codeIn K cd12 "_law_lift" = true) (k12 : PySem.W.keepIn K (.ref f12) = true)
    {f13 : Addr} {od13 an13 : Option Addr} {sl13 : Array (Option Value)} {oc13 kV13 dc13 pm13 cd13 ct13 : Value} (a13 : PySem.W.nsIn K mainGlobals "_law_good" = some (some (.ref f13))) (l13 : K.lookup f13 = some ⟨oc13, od13, .func (PySem.W.fnOf "_law_good" "_law_good" (defArgs s_law_good) (defBody s_law_good) (defScope s_law_good) .none kV13 dc13 pm13 an13 cd13 ct13), sl13⟩) (c13 : PySem.W.codeIn K cd13 "_law_good" = true) (k13 : PySem.W.keepIn K (.ref f13) = true)
    {f14 : Addr} {od14 an14 : Option Addr} {sl14 : Array (Option Value)} {oc14 kV14 dc14 pm14 cd14 ct14 : Value} (a14 : PySem.W.nsIn K mainGlobals "_law_one" = some (some (.ref f14))) (l14 : K.lookup f14 = some ⟨oc14, od14, .func (PySem.W.fnOf "_law_one" "_law_one" (defArgs s_law_one) (defBody s_law_one) (defScope s_law_one) .none kV14 dc14 pm14 an14 cd14 ct14), sl14⟩) (c14 : PySem.W.codeIn K cd14 "_law_one" = true) (k14 : PySem.W.keepIn K (.ref f14) = true)
    {f15 : Addr} {od15 an15 : Option Addr} {sl15 : Array (Option Value)} {oc15 kV15 dc15 pm15 cd15 ct15 : Value} (a15 : PySem.W.nsIn K mainGlobals "law" = some (some (.ref f15))) (l15 : K.lookup f15 = some ⟨oc15, od15, .func (PySem.W.fnOf "law" "law" (defArgs s_law) (defBody s_law) (defScope s_law) .none kV15 dc15 pm15 an15 cd15 ct15), sl15⟩) (c15 : PySem.W.codeIn K cd15 "law" = true) (k15 : PySem.W.keepIn K (.ref f15) = true)
    (z_all : PySem.W.nsIn K mainGlobals "all" = some none)
    (z_bool : PySem.W.nsIn K mainGlobals "bool" = some none)
    (z_int : PySem.W.nsIn K mainGlobals "int" = some none)
    (z_isinstance : PySem.W.nsIn K mainGlobals "isinstance" = some none)
    (z_len : PySem.W.nsIn K mainGlobals "len" = some none)
    (z_list : PySem.W.nsIn K mainGlobals "list" = some none)
    (z_max : PySem.W.nsIn K mainGlobals "max" = some none)
    (z_min : PySem.W.nsIn K mainGlobals "min" = some none)
    (z_range : PySem.W.nsIn K mainGlobals "range" = some none)
    (z_sorted : PySem.W.nsIn K mainGlobals "sorted" = some none)
    (z_str : PySem.W.nsIn K mainGlobals "str" = some none)
    (z_tuple : PySem.W.nsIn K mainGlobals "tuple" = some none) :
    ∃ fd : FuncData, (∀ (s : Shared) (v : Value), BindsTo s fd ⟨[v], []⟩ [("_law_script", v)]) ∧ ∀ base : Heap, K.In base → base.Ns mainGlobals mg → FnOk l.prog w K mg base CX0 topLevel fa fd ["_law_script"] (spOf K spLaw) := by
  have e := hfa.symm.trans (PySem.W.mg_of X G a15)
  cases e
  have F0 := fun_mk (st := s_sorted_counted) l0 c0 k0
  have b0 := F0.binds (ps := ["rows", "ranks"]) fun _ _ _ _ _ _ us hl => match us, hl with | [_, _], _ => rfl
  have F1 := fun_mk (st := s_halves_sorted) l1 c1 k1
  have b1 := F1.binds (ps := ["ranks", "places"]) fun _ _ _ _ _ _ us hl => match us, hl with | [_, _], _ => rfl
  have F2 := fun_mk (st := s_halves_merged) l2 c2 k2
  have b2 := F2.binds (ps := ["ranks", "first", "others"]) fun _ _ _ _ _ _ us hl => match us, hl with | [_, _, _], _ => rfl
  have F3 := fun_mk (st := s_law_deal) l3 c3 k3
  have b3 := F3.binds (ps := ["_law_script"]) fun _ _ _ _ _ _ us hl => match us, hl with | [_], _ => rfl
  have F4 := fun_mk (st := s_law_pick) l4 c4 k4
  have b4 := F4.binds (ps := ["_law_deal_here", "_law_many"]) fun _ _ _ _ _ _ us hl => match us, hl with | [_, _], _ => rfl
  have F5 := fun_mk (st := s_law_rank) l5 c5 k5
  have b5 := F5.binds (ps := ["_law_deal_here", "_law_way"]) fun _ _ _ _ _ _ us hl => match us, hl with | [_, _], _ => rfl
  have F6 := fun_mk (st := s_law_thing) l6 c6 k6
  have b6 := F6.binds (ps := ["_law_deal_here", "_law_at"]) fun _ _ _ _ _ _ us hl => match us, hl with | [_, _], _ => rfl
  have F7 := fun_mk (st := s_law_scene) l7 c7 k7
  have b7 := F7.binds (ps := ["_law_deal_here"]) fun _ _ _ _ _ _ us hl => match us, hl with | [_], _ => rfl
  have F8 := fun_mk (st := s_law_same) l8 c8 k8
  have b8 := F8.binds (ps := ["_law_one_here", "_law_other"]) fun _ _ _ _ _ _ us hl => match us, hl with | [_, _], _ => rfl
  have F9 := fun_mk (st := s_law_sorted) l9 c9 k9
  have b9 := F9.binds (ps := ["_law_rows", "_law_ranks"]) fun _ _ _ _ _ _ us hl => match us, hl with | [_, _], _ => rfl
  have F10 := fun_mk (st := s_law_compared) l10 c10 k10
  have b10 := F10.binds (ps := ["_law_ranks"]) fun _ _ _ _ _ _ us hl => match us, hl with | [_], _ => rfl
  have F11 := fun_mk (st := s_law_least) l11 c11 k11
  have b11 := F11.binds (ps := ["_law_many"]) fun _ _ _ _ _ _ us hl => match us, hl with | [_], _ => rfl
  have F12 := fun_mk (st := s_law_lift) l12 c12 k12
  have b12 := F12.binds (ps := ["_law_many"]) fun _ _ _ _ _ _ us hl => match us, hl with | [_], _ => rfl
  have F13 := fun_mk (st := s_law_good) l13 c13 k13
  have b13 := F13.binds (ps := ["_law_told", "_law_rows", "_law_ranks"]) fun _ _ _ _ _ _ us hl => match us, hl with | [_, _, _], _ => rfl
  have F14 := fun_mk (st := s_law_one) l14 c14 k14
  have b14 := F14.binds (ps := ["_law_rows", "_law_ranks"]) fun _ _ _ _ _ _ us hl => match us, hl with | [_, _], _ => rfl
  have F15 := fun_mk (st := s_law) l15 c15 k15
  have b15 := F15.binds (ps := ["_law_script"]) fun _ _ _ _ _ _ us hl => match us, hl with | [_], _ => rfl
  have Y : ∃ Y : Fs K mg, Y.a_law = fa ∧ Y.d_law = PySem.W.fnOf "law" "law" (defArgs s_law) (defBody s_law) (defScope s_law) .none kV15 dc15 pm15 an15 cd15 ct15 := ⟨{ a_sorted_counted := _, d_sorted_counted := _, F_sorted_counted := F0, b_sorted_counted := b0, m_sorted_counted := PySem.W.mg_of X G a0, a_halves_sorted := _, d_halves_sorted := _, F_halves_sorted := F1, b_halves_sorted := b1, m_halves_sorted := PySem.W.mg_of X G a1, a_halves_merged := _, d_halves_merged := _, F_halves_merged := F2, b_halves_merged := b2, m_halves_merged := PySem.W.mg_of X G a2, a_law_deal := _, d_law_deal := _, F_law_deal := F3, b_law_deal := b3, m_law_deal := PySem.W.mg_of X G a3, a_law_pick := _, d_law_pick := _, F_law_pick := F4, b_law_pick := b4, m_law_pick := PySem.W.mg_of X G a4, a_law_rank := _, d_law_rank := _, F_law_rank := F5, b_law_rank := b5, m_law_rank := PySem.W.mg_of X G a5, a_law_thing := _, d_law_thing := _, F_law_thing := F6, b_law_thing := b6, m_law_thing := PySem.W.mg_of X G a6, a_law_scene := _, d_law_scene := _, F_law_scene := F7, b_law_scene := b7, m_law_scene := PySem.W.mg_of X G a7, a_law_same := _, d_law_same := _, F_law_same := F8, b_law_same := b8, m_law_same := PySem.W.mg_of X G a8, a_law_sorted := _, d_law_sorted := _, F_law_sorted := F9, b_law_sorted := b9, m_law_sorted := PySem.W.mg_of X G a9, a_law_compared := _, d_law_compared := _, F_law_compared := F10, b_law_compared := b10, m_law_compared := PySem.W.mg_of X G a10, a_law_least := _, d_law_least := _, F_law_least := F11, b_law_least := b11, m_law_least := PySem.W.mg_of X G a11, a_law_lift := _, d_law_lift := _, F_law_lift := F12, b_law_lift := b12, m_law_lift := PySem.W.mg_of X G a12, a_law_good := _, d_law_good := _, F_law_good := F13, b_law_good := b13, m_law_good := PySem.W.mg_of X G a13, a_law_one := _, d_law_one := _, F_law_one := F14, b_law_one := b14, m_law_one := PySem.W.mg_of X G a14, a_law := _, d_law := _, F_law := F15, b_law := b15, m_law := PySem.W.mg_of X G a15 }, rfl, rfl⟩
  obtain ⟨Y, ya, yd⟩ := Y
  have T : Bt mg := ⟨PySem.W.mg_none_of X G z_all, PySem.W.mg_none_of X G z_bool, PySem.W.mg_none_of X G z_int, PySem.W.mg_none_of X G z_isinstance, PySem.W.mg_none_of X G z_len, PySem.W.mg_none_of X G z_list, PySem.W.mg_none_of X G z_max, PySem.W.mg_none_of X G z_min, PySem.W.mg_none_of X G z_range, PySem.W.mg_none_of X G z_sorted, PySem.W.mg_none_of X G z_str, PySem.W.mg_none_of X G z_tuple⟩
  refine ⟨PySem.W.fnOf "law" "law" (defArgs s_law) (defBody s_law) (defScope s_law) .none kV15 dc15 pm15 an15 cd15 ct15, fun s v => .of_eq rfl, fun base _ _ => ?_⟩
  rw [← ya, ← yd]
  exact chain Y T
end K69
open PySem PySem.W PyProof.Rows
set_option maxRecDepth 100000 in
set_option maxHeartbeats 0 in
theorem PySem.Challenge.cw_leastplans_k69_sorted_counted_by_halves_holds : PySem.Challenge.rw_leastplans_k69_sorted_counted_by_halves.Holds := by
  w_on; o_law; k_head; (case hw => w_witness2)
  k_fill
  refine L2.walk_ofK (l := PySem.Challenge.rw_leastplans_k69_sorted_counted_by_halves) (n := 63) (k := K69.topLevel) (x := "_law_script") (CX := L2.CX0) (sp := fun K => DL.spOf K DL.spLaw) rfl (by decide) rfl ⟨rfl, by decide, by decide⟩ (fun w h Y => PySem.W.kIn_of Y) ?F (fun _ _ a ns hl _ hS => DL.law_ask hl hS) (fun _ _ _ _ h => h)
  case F =>
    intro w mg fa h KX G hmg
    refine' K69.all_mk KX G hmg ?a0 ?l0 ?c0 ?k0 ?a1 ?l1 ?c1 ?k1 ?a2 ?l2 ?c2 ?k2 ?a3 ?l3 ?c3 ?k3 ?a4 ?l4 ?c4 ?k4 ?a5 ?l5 ?c5 ?k5 ?a6 ?l6 ?c6 ?k6 ?a7 ?l7 ?c7 ?k7 ?a8 ?l8 ?c8 ?k8 ?a9 ?l9 ?c9 ?k9 ?a10 ?l10 ?c10 ?k10 ?a11 ?l11 ?c11 ?k11 ?a12 ?l12 ?c12 ?k12 ?a13 ?l13 ?c13 ?k13 ?a14 ?l14 ?c14 ?k14 ?a15 ?l15 ?c15 ?k15 ?z_all ?z_bool ?z_int ?z_isinstance ?z_len ?z_list ?z_max ?z_min ?z_range ?z_sorted ?z_str ?z_tuple
    (case a0 => k_is); (case l0 => k_is); (case c0 => k_is); (case k0 => k_is)
    (case a1 => k_is); (case l1 => k_is); (case c1 => k_is); (case k1 => k_is)
    (case a2 => k_is); (case l2 => k_is); (case c2 => k_is); (case k2 => k_is)
    (case a3 => k_is); (case l3 => k_is); (case c3 => k_is); (case k3 => k_is)
    (case a4 => k_is); (case l4 => k_is); (case c4 => k_is); (case k4 => k_is)
    (case a5 => k_is); (case l5 => k_is); (case c5 => k_is); (case k5 => k_is)
    (case a6 => k_is); (case l6 => k_is); (case c6 => k_is); (case k6 => k_is)
    (case a7 => k_is); (case l7 => k_is); (case c7 => k_is); (case k7 => k_is)
    (case a8 => k_is); (case l8 => k_is); (case c8 => k_is); (case k8 => k_is)
    (case a9 => k_is); (case l9 => k_is); (case c9 => k_is); (case k9 => k_is)
    (case a10 => k_is); (case l10 => k_is); (case c10 => k_is); (case k10 => k_is)
    (case a11 => k_is); (case l11 => k_is); (case c11 => k_is); (case k11 => k_is)
    (case a12 => k_is); (case l12 => k_is); (case c12 => k_is); (case k12 => k_is)
    (case a13 => k_is); (case l13 => k_is); (case c13 => k_is); (case k13 => k_is)
    (case a14 => k_is); (case l14 => k_is); (case c14 => k_is); (case k14 => k_is)
    (case a15 => k_is); (case l15 => k_is); (case c15 => k_is); (case k15 => k_is)
    (case z_all => k_is); (case z_bool => k_is); (case z_int => k_is); (case z_isinstance => k_is); (case z_len => k_is); (case z_list => k_is); (case z_max => k_is); (case z_min => k_is); (case z_range => k_is); (case z_sorted => k_is); (case z_str => k_is); (case z_tuple => k_is)
